/-
  Chapter 46 (pool), part PoolC: contracts of functions that the laws call, each for the heap it names.
-/
import Derived.Test.YteofigbgdbpjgaaRows
import Derived.Test.YteofigbgdbpjgaaZB
import Derived.Test.YteofigbgdbpjgaaSLMapJ
import Derived.Test.YteofigbgdbpjgaaSLScope
import Derived.Test.YteofigbgdbpjgaaTab
import Derived.Test.YteofigbgdbpjgaaPoolB
import Derived.Test.YteofigbgdbpjgaaPoolP
import Derived.Test.YteofigbgdbpjgaaFifoB
set_option linter.unusedVariables false
set_option maxRecDepth 20000
set_option maxHeartbeats 1000000
namespace Go.Proofs.Yteofigbgdbpjgaa


theorem qlen_ok (p mb : Nat) (l : List (Nat × Int)) (n : Nat) (es : Array MapEntry) (mc : Nat) (hq : Qk l n) (hM : Mp (.int .u64) ekQ evQ es (nds 0 0 l)) : Spec Try.prog 30 [ptrQ p] (qH p mb l n es mc) (fun r H' => r = .int .i64 (l.length : Int) ∧ H' = qH p mb l n es mc) := by
  refine Spec.of (E := [(0, ptrQ p)]) Try.func30 rfl (by kernel_rfl) Try.ntmps30 rfl rfl (fun w => ?_)
  refine WC_seq ?_
  refine WC_region ?_
  refine WL_val rfl rfl rfl (R_assign rfl rfl) ?_
  refine WL_nil ?_
  refine WQ_code ?_
  refine WC_seq ?_
  refine WC_seq ?_
  refine WC_region ?_
  refine WL_val rfl rfl rfl (R_move rfl rfl) ?_
  refine WL_do rfl rfl rfl (D_call (qzero_ok p mb _ _ _ es mc) rfl rfl rfl rfl (pqZ)) ?_
  rintro _ _ ⟨_, ⟨rfl, rfl⟩, rfl⟩
  refine WL_nil ?_
  refine WQ_code ?_
  refine WC_F rfl ?_
  refine WC_skip ?_
  refine WQ_code ?_
  refine WC_seq ?_
  refine WC_region ?_
  refine WL_val rfl rfl rfl (R_move rfl rfl) ?_
  refine WL_val rfl rfl rfl (R_nilCheck rfl rfl) ?_
  refine WL_val rfl rfl rfl (R_fieldAddr rfl fa123_1 rfl) ?_
  refine WL_val rfl rfl rfl (R_load rfl sc119 rfl (mmZ) rfl) ?_
  refine WL_val rfl rfl rfl (R_lenMap rfl Try.underlying119 rfl (mmZ) hM) ?_
  refine WL_val rfl rfl rfl (R_assign rfl rfl) ?_
  refine WL_nil ?_
  refine WQ_code ?_
  refine WC_ret ?_
  refine WQ_ret rfl rfl (.cons (.tmp rfl) .nil) rfl (by
      exact ⟨congrArg (fun n : Nat => Value.int .i64 (n : Int)) (nds_len 0 0 l), rfl⟩) (pqZ)
theorem qpop_ok (p mb t : Nat) (v : Int) (l : List (Nat × Int)) (n : Nat) (es : Array MapEntry) (mc : Nat) (hq : Qk ((t, v) :: l) n) (hM : Mp (.int .u64) ekQ evQ es (nds 0 0 ((t, v) :: l))) : Spec Try.prog 69 [ptrQ p] (qH p mb ((t, v) :: l) n es mc)
    (fun r H' => ∃ es' mc', r = .tuple #[.int .i64 v, .int .u64 (t : Int), .int .i64 0] ∧ H' = qH p mb l n es' mc' ∧ Mp (.int .u64) ekQ evQ es' (nds 0 0 l)) := by
  refine Spec.of (E := [(0, ptrQ p)]) Try.func69 rfl (by kernel_rfl) Try.ntmps69 rfl rfl (fun w => ?_)
  refine WC_seq ?_
  refine WC_region ?_
  refine WL_val rfl rfl rfl (R_assign rfl rfl) ?_
  refine WL_val rfl rfl rfl (R_assign rfl rfl) ?_
  refine WL_val rfl rfl rfl (R_assign rfl rfl) ?_
  refine WL_nil ?_
  refine WQ_code ?_
  refine WC_seq ?_
  refine WC_region ?_
  refine WL_val rfl rfl rfl (R_move rfl rfl) ?_
  refine WL_do rfl rfl rfl (D_call (qfront_ok p mb t v l n es mc hq hM) rfl rfl rfl rfl (pqZ)) ?_
  rintro _ _ ⟨_, ⟨rfl, rfl⟩, rfl⟩
  refine WL_val rfl rfl rfl (R_move rfl rfl) ?_
  refine WL_val rfl rfl rfl (R_extract rfl rfl rfl) ?_
  refine WL_val rfl rfl rfl (R_extract rfl rfl rfl) ?_
  refine WL_val rfl rfl rfl (R_extract rfl rfl rfl) ?_
  refine WL_val rfl rfl rfl (R_assign rfl rfl) ?_
  refine WL_val rfl rfl rfl (R_assign rfl rfl) ?_
  refine WL_val rfl rfl rfl (R_assign rfl rfl) ?_
  refine WL_nil ?_
  refine WQ_code ?_
  refine WC_seq ?_
  refine WC_seq ?_
  refine WC_region ?_
  refine WL_val rfl rfl rfl (R_move rfl rfl) ?_
  refine WL_val rfl rfl rfl (R_eql rfl rfl rfl) ?_
  refine WL_nil ?_
  refine WQ_code ?_
  refine WC_dT rfl (by rfl) ?_
  refine WC_region ?_
  refine WL_val rfl rfl rfl (R_move rfl rfl) ?_
  refine WL_val rfl rfl rfl (R_move rfl rfl) ?_
  refine WL_do rfl rfl rfl (D_call (qrem_ok p mb [] l t v n es mc hq hM) rfl rfl rfl rfl (pqZ)) ?_
  rintro _ _ ⟨_, ⟨es1, mc1, rfl, rfl, hM1⟩, rfl⟩
  refine WL_nil ?_
  refine WQ_code ?_
  refine WC_seq ?_
  refine WC_region ?_
  refine WL_val rfl rfl rfl (R_move rfl rfl) ?_
  refine WL_val rfl rfl rfl (R_move rfl rfl) ?_
  refine WL_val rfl rfl rfl (R_move rfl rfl) ?_
  refine WL_val rfl rfl rfl (R_assign rfl rfl) ?_
  refine WL_val rfl rfl rfl (R_assign rfl rfl) ?_
  refine WL_val rfl rfl rfl (R_assign rfl rfl) ?_
  refine WL_nil ?_
  refine WQ_code ?_
  refine WC_ret ?_
  refine WQ_ret rfl rfl (.cons (.tmp rfl) (.cons (.tmp rfl) (.cons (.tmp rfl) .nil))) rfl (by
      exact ⟨es1, mc1, rfl, rfl, hM1⟩) (pqZ)
theorem pfirst_ok {m : PM} {s : PS} (h : PIs m s) {x : Qp} {r : List Qp} (hQ : s.Q = x :: r) : Spec Try.prog 31 [ptrP m.p] (poH m s) (fun v H' => ∃ m', v = .tuple #[.int .i64 x.who, .bool true] ∧ H' = poH m' s.pop ∧ m'.p = m.p ∧ PIs m' s.pop) := by
  have hqk := h.qk
  have hqM := h.qM
  have hnd := h.nd
  have hpr := qk_sub h.qk (show r.Sublist s.Q by rw [hQ]; exact List.sublist_cons_self x r)
  have hpop : s.pop = { s with Q := r } := by unfold PS.pop; rw [hQ]; rfl
  have hin : (x.who, (x.t, x.dl)) ∈ wq s.Q := by rw [hQ]; exact List.mem_cons_self ..
  have hdel : delL (wq s.Q) x.who = wq r := by rw [wq_del, hQ, flt_head (by rw [← hQ]; exact hnd)]
  have hfq : fq s.Q = (x.t, x.who) :: fq r := by rw [hQ]; rfl
  rw [hfq] at hqk hqM
  rw [hpop]
  unfold poH
  rw [hfq]
  refine Spec.of (E := [(0, ptrP m.p)]) Try.func31 rfl (by kernel_rfl) Try.ntmps31 rfl rfl (fun w => ?_)
  refine WC_seq ?_
  refine WC_region ?_
  refine WL_val rfl rfl rfl (R_assign rfl rfl) ?_
  refine WL_val rfl rfl rfl (R_assign rfl rfl) ?_
  refine WL_nil ?_
  refine WQ_code ?_
  refine WC_seq ?_
  refine WC_region ?_
  refine WL_val rfl rfl rfl (R_move rfl rfl) ?_
  refine WL_val rfl rfl rfl (R_nilCheck rfl rfl) ?_
  refine WL_val rfl rfl rfl (R_fieldAddr rfl fa71_5 rfl) ?_
  refine WL_val rfl rfl rfl (R_load (v := ptrQ m.q) rfl sc68 rfl (mmZ) (pc_t h.cl rfl 0)) ?_
  refine WL_do rfl rfl rfl (D_call (qpop_ok m.q m.qm x.t x.who (fq r) s.n m.qes m.qmc hqk hqM) rfl rfl rfl rfl (pqZ)) ?_
  rintro _ _ ⟨_, ⟨es1, mc1, rfl, rfl, hM1⟩, rfl⟩
  refine WL_val rfl rfl rfl (R_move rfl rfl) ?_
  refine WL_val rfl rfl rfl (R_extract rfl rfl rfl) ?_
  refine WL_val rfl rfl rfl (R_extract rfl rfl rfl) ?_
  refine WL_val rfl rfl rfl (R_extract rfl rfl rfl) ?_
  refine WL_val rfl rfl rfl (R_assign rfl rfl) ?_
  refine WL_val rfl rfl rfl (R_assign rfl rfl) ?_
  refine WL_val rfl rfl rfl (R_assign rfl rfl) ?_
  refine WL_nil ?_
  refine WQ_code ?_
  refine WC_seq ?_
  refine WC_region ?_
  refine WL_val rfl rfl rfl (R_move rfl rfl) ?_
  refine WL_val rfl rfl rfl (R_nilCheck rfl rfl) ?_
  refine WL_val rfl rfl rfl (R_fieldAddr rfl fa71_6 rfl) ?_
  refine WL_val rfl rfl rfl (R_load (v := .map (some m.wm)) rfl sc69 rfl (mmZ) (pc_t h.cl rfl 1)) ?_
  refine WL_val rfl rfl rfl (R_move rfl rfl) ?_
  refine WL_do0 rfl rfl (D_deleteK (k := x.who) (a := (x.t, x.dl)) rfl Try.underlying69 int_key rfl rfl plZ h.wM hin) ?_
  rintro _ _ ⟨es9, hM9, rfl⟩
  rw [hdel] at hM9
  refine WL_nil ?_
  refine WQ_code ?_
  refine WC_seq ?_
  refine WC_region ?_
  refine WL_val rfl rfl rfl (R_move rfl rfl) ?_
  refine WL_val rfl rfl rfl (R_move rfl rfl) ?_
  refine WL_val rfl rfl rfl (R_eql rfl rfl rfl) ?_
  refine WL_set (s := 23) (v := .bool true) rfl (by simp) ?_
  refine WL_val rfl rfl rfl (R_assign rfl rfl) ?_
  refine WL_val rfl rfl rfl (R_assign rfl rfl) ?_
  refine WL_nil ?_
  refine WQ_code ?_
  refine WC_ret ?_
  refine WQ_ret rfl rfl (.cons (.tmp rfl) (.cons (.tmp rfl) .nil)) rfl (by
      exact ⟨{ m with qes := es1, qmc := mc1, wes := es9, wmc := m.wmc }, rfl, rfl, rfl, h.q hpr hM1 hM9 (fun y hy => by rw [hQ]; exact List.mem_cons_of_mem _ hy)⟩) (pqZ)
theorem PS.next_nil {s : PS} (h : s.Q = []) : s.next = s := by unfold PS.next; rw [h]
theorem PS.next_full {s : PS} (h : s.room = false) : s.next = s := by unfold PS.next; split; rfl; rw [if_neg (by rw [h]; decide)]
theorem PS.next_ok {s : PS} {x : Qp} {r : List Qp} (hQ : s.Q = x :: r) (h : s.room = true) : s.next = (s.pop.dial x.who).tell 2 x.who (s.free : Int) := by unfold PS.next; rw [hQ]; dsimp only; rw [if_pos h]

end Go.Proofs.Yteofigbgdbpjgaa
