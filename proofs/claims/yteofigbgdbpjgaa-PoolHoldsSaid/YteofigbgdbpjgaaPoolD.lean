/-
  Chapter 46 (pool), part PoolD: contracts of functions that the laws call, each for the heap it names.
-/
import Derived.Test.YteofigbgdbpjgaaRows
import Derived.Test.YteofigbgdbpjgaaZB
import Derived.Test.YteofigbgdbpjgaaSLMapJ
import Derived.Test.YteofigbgdbpjgaaSLScope
import Derived.Test.YteofigbgdbpjgaaTab
import Derived.Test.YteofigbgdbpjgaaPoolC
set_option linter.unusedVariables false
set_option maxRecDepth 20000
set_option maxHeartbeats 1000000
namespace Go.Proofs.Yteofigbgdbpjgaa


theorem plose_none {m : PM} {s : PS} (h : PIs m s) (c : Nat) (hc : c < 64) (hE : s.E.length ≤ 1000000) (hn : s.Q = [] ∨ (s.set c ⟨0, 0, 0⟩).room = false) : Spec Try.prog 27 [ptrP m.p, .int .i64 (c : Int)] (poH m s) (fun r H' => ∃ m', r = .tuple #[] ∧ H' = poH m' (s.lose c) ∧ m'.p = m.p ∧ PIs m' (s.lose c)) := by
  obtain ⟨xc, hxc⟩ := getE (T := s.C) (i := c) (by rw [h.cl]; exact hc)
  have h0 : PIs m (s.set c ⟨0, 0, 0⟩) := h.set (Nat.zero_le _) ⟨by show (0 : Int) ≤ 0; decide, by show (0 : Int) ≤ 3; decide⟩
  have hls : s.lose c = s.set c ⟨0, 0, 0⟩ := by
    unfold PS.lose
    rcases hn with e | e
    · exact PS.next_nil e
    · exact PS.next_full e
  rw [hls]
  refine Spec.of (E := [(0, ptrP m.p), (1, .int .i64 (c : Int))]) Try.func27 rfl (by kernel_rfl) Try.ntmps27 rfl rfl (fun w => ?_)
  refine WC_seq ?_
  refine WC_region ?_
  refine WL_val rfl rfl rfl (R_move rfl rfl) ?_
  refine WL_val rfl rfl rfl (R_move rfl rfl) ?_
  refine WL_val rfl rfl rfl (R_build rfl zv66 pl66 rfl rfl) ?_
  refine WL_val rfl rfl rfl (R_nilCheck rfl rfl) ?_
  refine WL_val rfl rfl rfl (R_fieldAddr rfl fa71_4 rfl) ?_
  refine WL_val rfl rfl rfl (R_indexAddrAN rfl Try.underlying67 Try.sizeOf66 rfl rfl (by omega)) ?_
  refine WL_do0 rfl rfl (D_store (vs := [_, _, _]) rfl Try.sizeOf66 rfl rfl rfl rfl rfl (plZ) (by exact pc_room h.cl rfl (by omega))) ?_
  rintro _ _ rfl
  rw [show putAt _ _ [.int .i64 (0), .int .i64 (0), .int .u64 (0)] = _ from pc_put (A := pcH _) rfl (y := ⟨0, 0, 0⟩) hxc rfl]
  refine WL_nil ?_
  refine WQ_code ?_
  refine WC_seq ?_
  refine WC_seq ?_
  refine WC_region ?_
  refine WL_val rfl rfl rfl (R_move rfl rfl) ?_
  refine WL_val rfl rfl rfl (R_nilCheck rfl rfl) ?_
  refine WL_val rfl rfl rfl (R_fieldAddr rfl fa71_5 rfl) ?_
  refine WL_val rfl rfl rfl (R_load (v := ptrQ m.q) rfl sc68 rfl (mmZ) (pc_t h0.cl rfl 0)) ?_
  refine WL_do rfl rfl rfl (D_call (qlen_ok m.q m.qm (fq s.Q) s.n m.qes m.qmc h.qk h.qM) rfl rfl rfl rfl (pqZ)) ?_
  rintro _ _ ⟨_, ⟨rfl, rfl⟩, rfl⟩
  refine WL_val rfl rfl rfl (R_eql rfl rfl rfl) ?_
  refine WL_val rfl rfl rfl (R_move rfl rfl) ?_
  refine WL_splitD (s := 18) rfl (fun c1 => ?_) (fun c1 => ?_)
  · refine WL_skip rfl rfl rfl ?_
    refine WL_skip rfl rfl rfl ?_
    refine WL_skip rfl rfl rfl ?_
    refine WL_val rfl rfl rfl (R_pickT rfl rfl rfl) ?_
    refine WL_nil ?_
    refine WQ_code ?_
    refine WC_T rfl ?_
    refine WC_ret ?_
    refine WQ_ret rfl rfl .nil rfl (by
        exact ⟨m, rfl, rfl, rfl, h0⟩) (pqZ)
  · have hf : (s.set c ⟨0, 0, 0⟩).room = false := by rcases hn with e | e; exact absurd (by show ((fq s.Q).length : Int) = 0; rw [e]; rfl) c1; exact e
    refine WL_val rfl rfl rfl (R_move rfl rfl) ?_
    refine WL_do rfl rfl rfl (D_call (proom_ok h0) rfl rfl rfl rfl (pqZ)) ?_
    rintro _ _ ⟨_, ⟨rfl, rfl⟩, rfl⟩
    refine WL_val rfl rfl rfl (R_not rfl rfl) ?_
    refine WL_set (s := 21) (v := .bool true) rfl (by rw [hf]; rfl) ?_
    refine WL_val rfl rfl rfl (R_pickF rfl rfl rfl) ?_
    refine WL_nil ?_
    refine WQ_code ?_
    refine WC_T rfl ?_
    refine WC_ret ?_
    refine WQ_ret rfl rfl .nil rfl (by
        exact ⟨m, rfl, rfl, rfl, h0⟩) (pqZ)
theorem plose_some {m : PM} {s : PS} (h : PIs m s) (c : Nat) (hc : c < 64) (hE : s.E.length ≤ 1000000) {x : Qp} {r : List Qp} (hQ : s.Q = x :: r) (hr : (s.set c ⟨0, 0, 0⟩).room = true) : Spec Try.prog 27 [ptrP m.p, .int .i64 (c : Int)] (poH m s) (fun r H' => ∃ m', r = .tuple #[] ∧ H' = poH m' (s.lose c) ∧ m'.p = m.p ∧ PIs m' (s.lose c)) := by
  obtain ⟨xc, hxc⟩ := getE (T := s.C) (i := c) (by rw [h.cl]; exact hc)
  have h0 : PIs m (s.set c ⟨0, 0, 0⟩) := h.set (Nat.zero_le _) ⟨by show (0 : Int) ≤ 0; decide, by show (0 : Int) ≤ 3; decide⟩
  have hls : s.lose c = ((s.set c ⟨0, 0, 0⟩).pop.dial x.who).tell 2 x.who ((s.set c ⟨0, 0, 0⟩).free : Int) := PS.next_ok hQ hr
  have hne := PS.room_ne hr h0.cl h0.op.2
  rw [hls]
  refine Spec.of (E := [(0, ptrP m.p), (1, .int .i64 (c : Int))]) Try.func27 rfl (by kernel_rfl) Try.ntmps27 rfl rfl (fun w => ?_)
  refine WC_seq ?_
  refine WC_region ?_
  refine WL_val rfl rfl rfl (R_move rfl rfl) ?_
  refine WL_val rfl rfl rfl (R_move rfl rfl) ?_
  refine WL_val rfl rfl rfl (R_build rfl zv66 pl66 rfl rfl) ?_
  refine WL_val rfl rfl rfl (R_nilCheck rfl rfl) ?_
  refine WL_val rfl rfl rfl (R_fieldAddr rfl fa71_4 rfl) ?_
  refine WL_val rfl rfl rfl (R_indexAddrAN rfl Try.underlying67 Try.sizeOf66 rfl rfl (by omega)) ?_
  refine WL_do0 rfl rfl (D_store (vs := [_, _, _]) rfl Try.sizeOf66 rfl rfl rfl rfl rfl (plZ) (by exact pc_room h.cl rfl (by omega))) ?_
  rintro _ _ rfl
  rw [show putAt _ _ [.int .i64 (0), .int .i64 (0), .int .u64 (0)] = _ from pc_put (A := pcH _) rfl (y := ⟨0, 0, 0⟩) hxc rfl]
  refine WL_nil ?_
  refine WQ_code ?_
  refine WC_seq ?_
  refine WC_seq ?_
  refine WC_region ?_
  refine WL_val rfl rfl rfl (R_move rfl rfl) ?_
  refine WL_val rfl rfl rfl (R_nilCheck rfl rfl) ?_
  refine WL_val rfl rfl rfl (R_fieldAddr rfl fa71_5 rfl) ?_
  refine WL_val rfl rfl rfl (R_load (v := ptrQ m.q) rfl sc68 rfl (mmZ) (pc_t h0.cl rfl 0)) ?_
  refine WL_do rfl rfl rfl (D_call (qlen_ok m.q m.qm (fq s.Q) s.n m.qes m.qmc h.qk h.qM) rfl rfl rfl rfl (pqZ)) ?_
  rintro _ _ ⟨_, ⟨rfl, rfl⟩, rfl⟩
  refine WL_val rfl rfl rfl (R_eql rfl rfl rfl) ?_
  refine WL_val rfl rfl rfl (R_move rfl rfl) ?_
  refine WL_set (s := 18) (v := .bool false) rfl (by rw [show s.Q = x :: r from hQ]; simp; omega) ?_
  refine WL_val rfl rfl rfl (R_move rfl rfl) ?_
  refine WL_do rfl rfl rfl (D_call (proom_ok h0) rfl rfl rfl rfl (pqZ)) ?_
  rintro _ _ ⟨_, ⟨rfl, rfl⟩, rfl⟩
  refine WL_val rfl rfl rfl (R_not rfl rfl) ?_
  refine WL_set (s := 21) (v := .bool false) rfl (by rw [hr]; rfl) ?_
  refine WL_val rfl rfl rfl (R_pickF rfl rfl rfl) ?_
  refine WL_nil ?_
  refine WQ_code ?_
  refine WC_F rfl ?_
  refine WC_skip ?_
  refine WQ_code ?_
  refine WC_seq ?_
  refine WC_region ?_
  refine WL_val rfl rfl rfl (R_move rfl rfl) ?_
  refine WL_do rfl rfl rfl (D_call (pfirst_ok h0 (x := x) (r := r) hQ) rfl rfl rfl rfl (pqZ)) ?_
  rintro _ _ ⟨_, ⟨m1, rfl, rfl, hp1, h1⟩, rfl⟩
  rw [← hp1]
  refine WL_val rfl rfl rfl (R_move rfl rfl) ?_
  refine WL_val rfl rfl rfl (R_extract rfl rfl rfl) ?_
  refine WL_val rfl rfl rfl (R_extract rfl rfl rfl) ?_
  refine WL_val rfl rfl rfl (R_assign rfl rfl) ?_
  refine WL_val rfl rfl rfl (R_assign rfl rfl) ?_
  refine WL_nil ?_
  refine WQ_code ?_
  refine WC_region ?_
  refine WL_val rfl rfl rfl (R_move rfl rfl) ?_
  refine WL_val rfl rfl rfl (R_move rfl rfl) ?_
  refine WL_val rfl rfl rfl (R_move rfl rfl) ?_
  refine WL_val rfl rfl rfl (R_move rfl rfl) ?_
  refine WL_do rfl rfl rfl (D_call (pdial_ok h1 x.who hne) rfl rfl rfl rfl (pqZ)) ?_
  rintro _ _ ⟨_, ⟨rfl, rfl⟩, rfl⟩
  refine WL_do rfl rfl rfl (D_call (ptell_ok (h1.dial x.who) 2 x.who ((s.set c ⟨0, 0, 0⟩).free : Int) hE) rfl rfl rfl rfl (pqZ)) ?_
  rintro _ _ ⟨_, ⟨ob, ek, ec, epre, etl, rfl, rfl, hoS⟩, rfl⟩
  refine WL_nil ?_
  refine WQ_ret rfl rfl .nil rfl (by
      exact ⟨{ m1 with eb := ob, ek := ek, ec := ec, epre := epre, etl := etl }, rfl, rfl, rfl, (h1.dial x.who).tell hoS⟩) (pqZ)
theorem plose_ok {m : PM} {s : PS} (h : PIs m s) (c : Nat) (hc : c < 64) (hE : s.E.length ≤ 1000000) : Spec Try.prog 27 [ptrP m.p, .int .i64 (c : Int)] (poH m s) (fun r H' => ∃ m', r = .tuple #[] ∧ H' = poH m' (s.lose c) ∧ m'.p = m.p ∧ PIs m' (s.lose c)) := by
  cases hQ : s.Q with
  | nil => exact plose_none h c hc hE (.inl hQ)
  | cons x r =>
    cases hr : (s.set c ⟨0, 0, 0⟩).room with
    | false => exact plose_none h c hc hE (.inr hr)
    | true => exact plose_some h c hc hE hQ hr

end Go.Proofs.Yteofigbgdbpjgaa
