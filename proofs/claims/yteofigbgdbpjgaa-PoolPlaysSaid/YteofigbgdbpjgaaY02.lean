/-
  Chapter 46 (pool), part PoolU: contracts of functions that the laws call, each for the heap it names.
-/
import Derived.Test.YteofigbgdbpjgaaY01
import Derived.Test.YteofigbgdbpjgaaRows
import Derived.Shelf.SlSortCmp.Whole1
import Derived.Shelf.SlSortCmp.NoneTotal
section
set_option linter.unusedVariables false
set_option maxRecDepth 20000
set_option maxHeartbeats 1000000
namespace Go.Proofs.Yteofigbgdbpjgaa
theorem qrem_ok (p mb : Nat) (A B : List (Nat × Int)) (t : Nat) (v : Int) (n : Nat) (es : Array MapEntry) (mc : Nat) (hq : Qk (A ++ (t, v) :: B) n) (hM : Mp (.int .u64) ekQ evQ es (nds 0 0 (A ++ (t, v) :: B))) : Spec Try.prog 73 [ptrQ p, .int .u64 (t : Int)] (qH p mb (A ++ (t, v) :: B) n es mc)
    (fun r H' => ∃ es' mc', r = .tuple #[.int .i64 v, .int .i64 0] ∧ H' = qH p mb (A ++ B) n es' mc' ∧ Mp (.int .u64) ekQ evQ es' (nds 0 0 (A ++ B))) := by
  have h := qrem_raw p mb A B t v n es mc hq hM
  have e1 : hd t A = hd 0 (A ++ (t, v) :: B) := by rw [hd_append]; rfl
  have e2 : lst t B = lst 0 (A ++ (t, v) :: B) := by rw [lst_append]; rfl
  rw [e1, e2] at h
  exact h.mono fun r H' ⟨es', mc', f, la, h1, h2, h3, h4, h5⟩ => by subst h3; subst h4; exact ⟨es', mc', h1, h2, by rw [nds_append]; exact h5⟩
theorem ext_clone : Extern.find Try.f88 = some Extern.MapsClone.clone := by kernel_rfl
theorem ext_clone_next : Extern.findNext Try.f88 = none := by kernel_rfl
theorem ext_clone_name : (Try.f88.name == "runtime.NumGoroutine") = false := by kernel_rfl
theorem mclone_ok (mb : Nat) (es : Array MapEntry) (mc : Nat) : Spec Try.prog 87 [.map (some mb)] [⟨some mb, .map es mc⟩] (fun r H' => ∃ m2, r = .map (some m2) ∧ H' = [⟨some m2, .map es mc⟩, ⟨some mb, .map es mc⟩]) := by
  refine Spec.of (E := [(0, .map (some mb))]) Try.func87 rfl (by kernel_rfl) Try.ntmps87 rfl rfl (fun w => ?_)
  refine WC_seq ?_
  refine WC_region ?_
  refine WL_val rfl rfl rfl (R_assign rfl rfl) ?_
  refine WL_nil ?_
  refine WQ_code ?_
  refine WC_seq ?_
  refine WC_seq ?_
  refine WC_region ?_
  refine WL_val rfl rfl rfl (R_move rfl rfl) ?_
  refine WL_val rfl rfl rfl (R_mapEqNil rfl Try.underlying119 rfl) ?_
  refine WL_set (s := 4) (v := .bool false) rfl (by rfl) ?_
  refine WL_nil ?_
  refine WQ_code ?_
  refine WC_F rfl ?_
  refine WC_skip ?_
  refine WQ_code ?_
  refine WC_seq ?_
  refine WC_region ?_
  refine WL_val rfl rfl rfl (R_move rfl rfl) ?_
  refine WL_val rfl rfl rfl (R_mkIface rfl Try.underlying119 (by intro ms e; cases e) rfl) ?_
  refine WL_do rfl rfl rfl (D_mapsClone Try.func88 ext_clone_name rfl ext_clone_next ext_clone rfl rfl (mmZ)) ?_
  rintro _ _ ⟨m2, rfl, rfl⟩
  refine WL_val rfl rfl rfl (R_assert rfl Try.underlying119 (by intro ms e; cases e) rfl) ?_
  refine WL_val rfl rfl rfl (R_assign rfl rfl) ?_
  refine WL_nil ?_
  refine WQ_code ?_
  refine WC_ret ?_
  refine WQ_ret rfl rfl (.cons (.tmp rfl) .nil) rfl (by
      exact ⟨m2, rfl, rfl⟩) (pqZ)
theorem qcopy_ok (p mb : Nat) (l : List (Nat × Int)) (n : Nat) (es : Array MapEntry) (mc : Nat) : Spec Try.prog 65 [ptrQ p] (qH p mb l n es mc) (fun r H' => ∃ p2 m2, r = ptrQ p2 ∧ H' = qH p2 m2 l n es mc ++ qH p mb l n es mc) := by
  refine Spec.of (E := [(0, ptrQ p)]) Try.func65 rfl (by kernel_rfl) Try.ntmps65 rfl rfl (fun w => ?_)
  refine WC_seq ?_
  refine WC_region ?_
  refine WL_val rfl rfl rfl (R_assign rfl rfl) ?_
  refine WL_nil ?_
  refine WQ_code ?_
  refine WC_seq ?_
  refine WC_seq ?_
  refine WC_region ?_
  refine WL_val rfl rfl rfl (R_move rfl rfl) ?_
  refine WL_do rfl rfl rfl (D_call (qzero_ok p mb _ _ _ es mc) rfl rfl rfl rfl (pqZ)) ?_
  rintro _ _ ⟨_, ⟨rfl, rfl⟩, rfl⟩
  refine WL_nil ?_
  refine WQ_code ?_
  refine WC_F rfl ?_
  refine WC_skip ?_
  refine WQ_code ?_
  refine WC_seq ?_
  refine WC_draw _ [(0, true), (1, true), (2, true), (3, true), (4, true), (5, true), (6, true), (7, true), (8, false), (9, true), (10, false), (11, true)] followsMixed rfl rfl (by kernel_rfl) .all ?_
  refine WM_val rfl rfl rfl rfl (R_move rfl rfl) ?_
  refine WM_val rfl rfl rfl rfl (R_nilCheck rfl rfl) ?_
  refine WM_val rfl rfl rfl rfl (R_fieldAddr rfl fa123_0 rfl) ?_
  refine WM_val rfl rfl rfl rfl (R_loadA (vs := [_, _, _]) rfl ag121 rfl (mmZ) rfl (atZ)) ?_
  refine WM_val rfl rfl rfl rfl (R_move rfl rfl) ?_
  refine WM_val rfl rfl rfl rfl (R_nilCheck rfl rfl) ?_
  refine WM_val rfl rfl rfl rfl (R_fieldAddr rfl fa123_1 rfl) ?_
  refine WM_val rfl rfl rfl rfl (R_load rfl sc119 rfl (mmZ) rfl) ?_
  refine WM_do rfl rfl rfl rfl (D_call (mclone_ok mb es mc) rfl rfl rfl rfl (pqZ)) ?_
  rintro _ _ ⟨_, ⟨m2, rfl, rfl⟩, rfl⟩
  refine ⟨⟨_, pqZ⟩, ?_⟩
  refine WM_val rfl rfl rfl rfl (R_build rfl zv123 pl123 rfl rfl) ?_
  refine WM_do rfl rfl rfl rfl (D_box (cs := [_, _, _, _]) rfl rfl rfl) ?_
  rintro _ _ ⟨b1, rfl, rfl⟩
  refine ⟨⟨_, pqZ⟩, ?_⟩
  refine WM_val rfl rfl rfl rfl (R_assign rfl rfl) ?_
  refine WM_nil ?_
  refine WQ_code ?_
  refine WC_ret ?_
  refine WQ_ret rfl rfl (.cons (.tmp rfl) .nil) rfl (by
      exact ⟨_, m2, rfl, rfl⟩) (pqZ)
end Go.Proofs.Yteofigbgdbpjgaa
end
section
set_option linter.unusedVariables false
set_option maxRecDepth 20000
set_option maxHeartbeats 1000000
namespace Go.Proofs.Yteofigbgdbpjgaa
theorem qlen_ok (p mb : Nat) (l : List (Nat × Int)) (n : Nat) (es : Array MapEntry) (mc : Nat) (hq : Qk l n) (hM : Mp (.int .u64) ekQ evQ es (nds 0 0 l)) : Spec Try.prog 30 [ptrQ p] (qH p mb l n es mc) (fun r H' => r = .int .i64 (l.length : Int) ∧ H' = qH p mb l n es mc) := by
  refine Spec.of (E := [(0, ptrQ p)]) Try.func30 rfl (by kernel_rfl) Try.ntmps30 rfl rfl (fun w => ?_)
  refine WC_seq ?_
  refine WC_region ?_
  refine WL_val rfl rfl rfl (R_assign rfl rfl) ?_
  refine WL_nil ?_
  refine WQ_code ?_
  refine WC_seq ?_
  refine WC_seq ?_
  refine WC_region ?_
  refine WL_val rfl rfl rfl (R_move rfl rfl) ?_
  refine WL_do rfl rfl rfl (D_call (qzero_ok p mb _ _ _ es mc) rfl rfl rfl rfl (pqZ)) ?_
  rintro _ _ ⟨_, ⟨rfl, rfl⟩, rfl⟩
  refine WL_nil ?_
  refine WQ_code ?_
  refine WC_F rfl ?_
  refine WC_skip ?_
  refine WQ_code ?_
  refine WC_seq ?_
  refine WC_region ?_
  refine WL_val rfl rfl rfl (R_move rfl rfl) ?_
  refine WL_val rfl rfl rfl (R_nilCheck rfl rfl) ?_
  refine WL_val rfl rfl rfl (R_fieldAddr rfl fa123_1 rfl) ?_
  refine WL_val rfl rfl rfl (R_load rfl sc119 rfl (mmZ) rfl) ?_
  refine WL_val rfl rfl rfl (R_lenMap rfl Try.underlying119 rfl (mmZ) hM) ?_
  refine WL_val rfl rfl rfl (R_assign rfl rfl) ?_
  refine WL_nil ?_
  refine WQ_code ?_
  refine WC_ret ?_
  refine WQ_ret rfl rfl (.cons (.tmp rfl) .nil) rfl (by
      exact ⟨congrArg (fun n : Nat => Value.int .i64 (n : Int)) (nds_len 0 0 l), rfl⟩) (pqZ)
theorem qpop_ok (p mb t : Nat) (v : Int) (l : List (Nat × Int)) (n : Nat) (es : Array MapEntry) (mc : Nat) (hq : Qk ((t, v) :: l) n) (hM : Mp (.int .u64) ekQ evQ es (nds 0 0 ((t, v) :: l))) : Spec Try.prog 69 [ptrQ p] (qH p mb ((t, v) :: l) n es mc)
    (fun r H' => ∃ es' mc', r = .tuple #[.int .i64 v, .int .u64 (t : Int), .int .i64 0] ∧ H' = qH p mb l n es' mc' ∧ Mp (.int .u64) ekQ evQ es' (nds 0 0 l)) := by
  refine Spec.of (E := [(0, ptrQ p)]) Try.func69 rfl (by kernel_rfl) Try.ntmps69 rfl rfl (fun w => ?_)
  refine WC_seq ?_
  refine WC_region ?_
  refine WL_val rfl rfl rfl (R_assign rfl rfl) ?_
  refine WL_val rfl rfl rfl (R_assign rfl rfl) ?_
  refine WL_val rfl rfl rfl (R_assign rfl rfl) ?_
  refine WL_nil ?_
  refine WQ_code ?_
  refine WC_seq ?_
  refine WC_region ?_
  refine WL_val rfl rfl rfl (R_move rfl rfl) ?_
  refine WL_do rfl rfl rfl (D_call (qfront_ok p mb t v l n es mc hq hM) rfl rfl rfl rfl (pqZ)) ?_
  rintro _ _ ⟨_, ⟨rfl, rfl⟩, rfl⟩
  refine WL_val rfl rfl rfl (R_move rfl rfl) ?_
  refine WL_val rfl rfl rfl (R_extract rfl rfl rfl) ?_
  refine WL_val rfl rfl rfl (R_extract rfl rfl rfl) ?_
  refine WL_val rfl rfl rfl (R_extract rfl rfl rfl) ?_
  refine WL_val rfl rfl rfl (R_assign rfl rfl) ?_
  refine WL_val rfl rfl rfl (R_assign rfl rfl) ?_
  refine WL_val rfl rfl rfl (R_assign rfl rfl) ?_
  refine WL_nil ?_
  refine WQ_code ?_
  refine WC_seq ?_
  refine WC_seq ?_
  refine WC_region ?_
  refine WL_val rfl rfl rfl (R_move rfl rfl) ?_
  refine WL_val rfl rfl rfl (R_eql rfl rfl rfl) ?_
  refine WL_nil ?_
  refine WQ_code ?_
  refine WC_dT rfl (by rfl) ?_
  refine WC_region ?_
  refine WL_val rfl rfl rfl (R_move rfl rfl) ?_
  refine WL_val rfl rfl rfl (R_move rfl rfl) ?_
  refine WL_do rfl rfl rfl (D_call (qrem_ok p mb [] l t v n es mc hq hM) rfl rfl rfl rfl (pqZ)) ?_
  rintro _ _ ⟨_, ⟨es1, mc1, rfl, rfl, hM1⟩, rfl⟩
  refine WL_nil ?_
  refine WQ_code ?_
  refine WC_seq ?_
  refine WC_region ?_
  refine WL_val rfl rfl rfl (R_move rfl rfl) ?_
  refine WL_val rfl rfl rfl (R_move rfl rfl) ?_
  refine WL_val rfl rfl rfl (R_move rfl rfl) ?_
  refine WL_val rfl rfl rfl (R_assign rfl rfl) ?_
  refine WL_val rfl rfl rfl (R_assign rfl rfl) ?_
  refine WL_val rfl rfl rfl (R_assign rfl rfl) ?_
  refine WL_nil ?_
  refine WQ_code ?_
  refine WC_ret ?_
  refine WQ_ret rfl rfl (.cons (.tmp rfl) (.cons (.tmp rfl) (.cons (.tmp rfl) .nil))) rfl (by
      exact ⟨es1, mc1, rfl, rfl, hM1⟩) (pqZ)
theorem pfirst_ok {m : PM} {s : PS} (h : PIs m s) {x : Qp} {r : List Qp} (hQ : s.Q = x :: r) : Spec Try.prog 31 [ptrP m.p] (poH m s) (fun v H' => ∃ m', v = .tuple #[.int .i64 x.who, .bool true] ∧ H' = poH m' s.pop ∧ m'.p = m.p ∧ PIs m' s.pop) := by
  have hqk := h.qk
  have hqM := h.qM
  have hnd := h.nd
  have hpr := qk_sub h.qk (show r.Sublist s.Q by rw [hQ]; exact List.sublist_cons_self x r)
  have hpop : s.pop = { s with Q := r } := by unfold PS.pop; rw [hQ]; rfl
  have hin : (x.who, (x.t, x.dl)) ∈ wq s.Q := by rw [hQ]; exact List.mem_cons_self ..
  have hdel : delL (wq s.Q) x.who = wq r := by rw [wq_del, hQ, flt_head (by rw [← hQ]; exact hnd)]
  have hfq : fq s.Q = (x.t, x.who) :: fq r := by rw [hQ]; rfl
  rw [hfq] at hqk hqM
  rw [hpop]
  unfold poH
  rw [hfq]
  refine Spec.of (E := [(0, ptrP m.p)]) Try.func31 rfl (by kernel_rfl) Try.ntmps31 rfl rfl (fun w => ?_)
  refine WC_seq ?_
  refine WC_region ?_
  refine WL_val rfl rfl rfl (R_assign rfl rfl) ?_
  refine WL_val rfl rfl rfl (R_assign rfl rfl) ?_
  refine WL_nil ?_
  refine WQ_code ?_
  refine WC_seq ?_
  refine WC_region ?_
  refine WL_val rfl rfl rfl (R_move rfl rfl) ?_
  refine WL_val rfl rfl rfl (R_nilCheck rfl rfl) ?_
  refine WL_val rfl rfl rfl (R_fieldAddr rfl fa71_5 rfl) ?_
  refine WL_val rfl rfl rfl (R_load (v := ptrQ m.q) rfl sc68 rfl (mmZ) (pc_t h.cl rfl 0)) ?_
  refine WL_do rfl rfl rfl (D_call (qpop_ok m.q m.qm x.t x.who (fq r) s.n m.qes m.qmc hqk hqM) rfl rfl rfl rfl (pqZ)) ?_
  rintro _ _ ⟨_, ⟨es1, mc1, rfl, rfl, hM1⟩, rfl⟩
  refine WL_val rfl rfl rfl (R_move rfl rfl) ?_
  refine WL_val rfl rfl rfl (R_extract rfl rfl rfl) ?_
  refine WL_val rfl rfl rfl (R_extract rfl rfl rfl) ?_
  refine WL_val rfl rfl rfl (R_extract rfl rfl rfl) ?_
  refine WL_val rfl rfl rfl (R_assign rfl rfl) ?_
  refine WL_val rfl rfl rfl (R_assign rfl rfl) ?_
  refine WL_val rfl rfl rfl (R_assign rfl rfl) ?_
  refine WL_nil ?_
  refine WQ_code ?_
  refine WC_seq ?_
  refine WC_region ?_
  refine WL_val rfl rfl rfl (R_move rfl rfl) ?_
  refine WL_val rfl rfl rfl (R_nilCheck rfl rfl) ?_
  refine WL_val rfl rfl rfl (R_fieldAddr rfl fa71_6 rfl) ?_
  refine WL_val rfl rfl rfl (R_load (v := .map (some m.wm)) rfl sc69 rfl (mmZ) (pc_t h.cl rfl 1)) ?_
  refine WL_val rfl rfl rfl (R_move rfl rfl) ?_
  refine WL_do0 rfl rfl (D_deleteK (k := x.who) (a := (x.t, x.dl)) rfl Try.underlying69 int_key rfl rfl plZ h.wM hin) ?_
  rintro _ _ ⟨es9, hM9, rfl⟩
  rw [hdel] at hM9
  refine WL_nil ?_
  refine WQ_code ?_
  refine WC_seq ?_
  refine WC_region ?_
  refine WL_val rfl rfl rfl (R_move rfl rfl) ?_
  refine WL_val rfl rfl rfl (R_move rfl rfl) ?_
  refine WL_val rfl rfl rfl (R_eql rfl rfl rfl) ?_
  refine WL_set (s := 23) (v := .bool true) rfl (by simp) ?_
  refine WL_val rfl rfl rfl (R_assign rfl rfl) ?_
  refine WL_val rfl rfl rfl (R_assign rfl rfl) ?_
  refine WL_nil ?_
  refine WQ_code ?_
  refine WC_ret ?_
  refine WQ_ret rfl rfl (.cons (.tmp rfl) (.cons (.tmp rfl) .nil)) rfl (by
      exact ⟨{ m with qes := es1, qmc := mc1, wes := es9, wmc := m.wmc }, rfl, rfl, rfl, h.q hpr hM1 hM9 (fun y hy => by rw [hQ]; exact List.mem_cons_of_mem _ hy)⟩) (pqZ)
theorem PS.next_nil {s : PS} (h : s.Q = []) : s.next = s := by unfold PS.next; rw [h]
theorem PS.next_full {s : PS} (h : s.room = false) : s.next = s := by unfold PS.next; split; rfl; rw [if_neg (by rw [h]; decide)]
theorem PS.next_ok {s : PS} {x : Qp} {r : List Qp} (hQ : s.Q = x :: r) (h : s.room = true) : s.next = (s.pop.dial x.who).tell 2 x.who (s.free : Int) := by unfold PS.next; rw [hQ]; dsimp only; rw [if_pos h]
end Go.Proofs.Yteofigbgdbpjgaa
end
section
set_option linter.unusedVariables false
set_option maxRecDepth 20000
set_option maxHeartbeats 1000000
namespace Go.Proofs.Yteofigbgdbpjgaa
theorem plose_none {m : PM} {s : PS} (h : PIs m s) (c : Nat) (hc : c < 64) (hE : s.E.length ≤ 1000000) (hn : s.Q = [] ∨ (s.set c ⟨0, 0, 0⟩).room = false) : Spec Try.prog 27 [ptrP m.p, .int .i64 (c : Int)] (poH m s) (fun r H' => ∃ m', r = .tuple #[] ∧ H' = poH m' (s.lose c) ∧ m'.p = m.p ∧ PIs m' (s.lose c)) := by
  obtain ⟨xc, hxc⟩ := getE (T := s.C) (i := c) (by rw [h.cl]; exact hc)
  have h0 : PIs m (s.set c ⟨0, 0, 0⟩) := h.set (Nat.zero_le _) ⟨by show (0 : Int) ≤ 0; decide, by show (0 : Int) ≤ 3; decide⟩
  have hls : s.lose c = s.set c ⟨0, 0, 0⟩ := by
    unfold PS.lose
    rcases hn with e | e
    · exact PS.next_nil e
    · exact PS.next_full e
  rw [hls]
  refine Spec.of (E := [(0, ptrP m.p), (1, .int .i64 (c : Int))]) Try.func27 rfl (by kernel_rfl) Try.ntmps27 rfl rfl (fun w => ?_)
  refine WC_seq ?_
  refine WC_region ?_
  refine WL_val rfl rfl rfl (R_move rfl rfl) ?_
  refine WL_val rfl rfl rfl (R_move rfl rfl) ?_
  refine WL_val rfl rfl rfl (R_build rfl zv66 pl66 rfl rfl) ?_
  refine WL_val rfl rfl rfl (R_nilCheck rfl rfl) ?_
  refine WL_val rfl rfl rfl (R_fieldAddr rfl fa71_4 rfl) ?_
  refine WL_val rfl rfl rfl (R_indexAddrAN rfl Try.underlying67 Try.sizeOf66 rfl rfl (by omega)) ?_
  refine WL_do0 rfl rfl (D_store (vs := [_, _, _]) rfl Try.sizeOf66 rfl rfl rfl rfl rfl (plZ) (by exact pc_room h.cl rfl (by omega))) ?_
  rintro _ _ rfl
  rw [show putAt _ _ [.int .i64 (0), .int .i64 (0), .int .u64 (0)] = _ from pc_put (A := pcH _) rfl (y := ⟨0, 0, 0⟩) hxc rfl]
  refine WL_nil ?_
  refine WQ_code ?_
  refine WC_seq ?_
  refine WC_seq ?_
  refine WC_region ?_
  refine WL_val rfl rfl rfl (R_move rfl rfl) ?_
  refine WL_val rfl rfl rfl (R_nilCheck rfl rfl) ?_
  refine WL_val rfl rfl rfl (R_fieldAddr rfl fa71_5 rfl) ?_
  refine WL_val rfl rfl rfl (R_load (v := ptrQ m.q) rfl sc68 rfl (mmZ) (pc_t h0.cl rfl 0)) ?_
  refine WL_do rfl rfl rfl (D_call (qlen_ok m.q m.qm (fq s.Q) s.n m.qes m.qmc h.qk h.qM) rfl rfl rfl rfl (pqZ)) ?_
  rintro _ _ ⟨_, ⟨rfl, rfl⟩, rfl⟩
  refine WL_val rfl rfl rfl (R_eql rfl rfl rfl) ?_
  refine WL_val rfl rfl rfl (R_move rfl rfl) ?_
  refine WL_splitD (s := 18) rfl (fun c1 => ?_) (fun c1 => ?_)
  · refine WL_skip rfl rfl rfl ?_
    refine WL_skip rfl rfl rfl ?_
    refine WL_skip rfl rfl rfl ?_
    refine WL_val rfl rfl rfl (R_pickT rfl rfl rfl) ?_
    refine WL_nil ?_
    refine WQ_code ?_
    refine WC_T rfl ?_
    refine WC_ret ?_
    refine WQ_ret rfl rfl .nil rfl (by
        exact ⟨m, rfl, rfl, rfl, h0⟩) (pqZ)
  · have hf : (s.set c ⟨0, 0, 0⟩).room = false := by rcases hn with e | e; exact absurd (by show ((fq s.Q).length : Int) = 0; rw [e]; rfl) c1; exact e
    refine WL_val rfl rfl rfl (R_move rfl rfl) ?_
    refine WL_do rfl rfl rfl (D_call (proom_ok h0) rfl rfl rfl rfl (pqZ)) ?_
    rintro _ _ ⟨_, ⟨rfl, rfl⟩, rfl⟩
    refine WL_val rfl rfl rfl (R_not rfl rfl) ?_
    refine WL_set (s := 21) (v := .bool true) rfl (by rw [hf]; rfl) ?_
    refine WL_val rfl rfl rfl (R_pickF rfl rfl rfl) ?_
    refine WL_nil ?_
    refine WQ_code ?_
    refine WC_T rfl ?_
    refine WC_ret ?_
    refine WQ_ret rfl rfl .nil rfl (by
        exact ⟨m, rfl, rfl, rfl, h0⟩) (pqZ)
theorem plose_some {m : PM} {s : PS} (h : PIs m s) (c : Nat) (hc : c < 64) (hE : s.E.length ≤ 1000000) {x : Qp} {r : List Qp} (hQ : s.Q = x :: r) (hr : (s.set c ⟨0, 0, 0⟩).room = true) : Spec Try.prog 27 [ptrP m.p, .int .i64 (c : Int)] (poH m s) (fun r H' => ∃ m', r = .tuple #[] ∧ H' = poH m' (s.lose c) ∧ m'.p = m.p ∧ PIs m' (s.lose c)) := by
  obtain ⟨xc, hxc⟩ := getE (T := s.C) (i := c) (by rw [h.cl]; exact hc)
  have h0 : PIs m (s.set c ⟨0, 0, 0⟩) := h.set (Nat.zero_le _) ⟨by show (0 : Int) ≤ 0; decide, by show (0 : Int) ≤ 3; decide⟩
  have hls : s.lose c = ((s.set c ⟨0, 0, 0⟩).pop.dial x.who).tell 2 x.who ((s.set c ⟨0, 0, 0⟩).free : Int) := PS.next_ok hQ hr
  have hne := PS.room_ne hr h0.cl h0.op.2
  rw [hls]
  refine Spec.of (E := [(0, ptrP m.p), (1, .int .i64 (c : Int))]) Try.func27 rfl (by kernel_rfl) Try.ntmps27 rfl rfl (fun w => ?_)
  refine WC_seq ?_
  refine WC_region ?_
  refine WL_val rfl rfl rfl (R_move rfl rfl) ?_
  refine WL_val rfl rfl rfl (R_move rfl rfl) ?_
  refine WL_val rfl rfl rfl (R_build rfl zv66 pl66 rfl rfl) ?_
  refine WL_val rfl rfl rfl (R_nilCheck rfl rfl) ?_
  refine WL_val rfl rfl rfl (R_fieldAddr rfl fa71_4 rfl) ?_
  refine WL_val rfl rfl rfl (R_indexAddrAN rfl Try.underlying67 Try.sizeOf66 rfl rfl (by omega)) ?_
  refine WL_do0 rfl rfl (D_store (vs := [_, _, _]) rfl Try.sizeOf66 rfl rfl rfl rfl rfl (plZ) (by exact pc_room h.cl rfl (by omega))) ?_
  rintro _ _ rfl
  rw [show putAt _ _ [.int .i64 (0), .int .i64 (0), .int .u64 (0)] = _ from pc_put (A := pcH _) rfl (y := ⟨0, 0, 0⟩) hxc rfl]
  refine WL_nil ?_
  refine WQ_code ?_
  refine WC_seq ?_
  refine WC_seq ?_
  refine WC_region ?_
  refine WL_val rfl rfl rfl (R_move rfl rfl) ?_
  refine WL_val rfl rfl rfl (R_nilCheck rfl rfl) ?_
  refine WL_val rfl rfl rfl (R_fieldAddr rfl fa71_5 rfl) ?_
  refine WL_val rfl rfl rfl (R_load (v := ptrQ m.q) rfl sc68 rfl (mmZ) (pc_t h0.cl rfl 0)) ?_
  refine WL_do rfl rfl rfl (D_call (qlen_ok m.q m.qm (fq s.Q) s.n m.qes m.qmc h.qk h.qM) rfl rfl rfl rfl (pqZ)) ?_
  rintro _ _ ⟨_, ⟨rfl, rfl⟩, rfl⟩
  refine WL_val rfl rfl rfl (R_eql rfl rfl rfl) ?_
  refine WL_val rfl rfl rfl (R_move rfl rfl) ?_
  refine WL_set (s := 18) (v := .bool false) rfl (by rw [show s.Q = x :: r from hQ]; simp; omega) ?_
  refine WL_val rfl rfl rfl (R_move rfl rfl) ?_
  refine WL_do rfl rfl rfl (D_call (proom_ok h0) rfl rfl rfl rfl (pqZ)) ?_
  rintro _ _ ⟨_, ⟨rfl, rfl⟩, rfl⟩
  refine WL_val rfl rfl rfl (R_not rfl rfl) ?_
  refine WL_set (s := 21) (v := .bool false) rfl (by rw [hr]; rfl) ?_
  refine WL_val rfl rfl rfl (R_pickF rfl rfl rfl) ?_
  refine WL_nil ?_
  refine WQ_code ?_
  refine WC_F rfl ?_
  refine WC_skip ?_
  refine WQ_code ?_
  refine WC_seq ?_
  refine WC_region ?_
  refine WL_val rfl rfl rfl (R_move rfl rfl) ?_
  refine WL_do rfl rfl rfl (D_call (pfirst_ok h0 (x := x) (r := r) hQ) rfl rfl rfl rfl (pqZ)) ?_
  rintro _ _ ⟨_, ⟨m1, rfl, rfl, hp1, h1⟩, rfl⟩
  rw [← hp1]
  refine WL_val rfl rfl rfl (R_move rfl rfl) ?_
  refine WL_val rfl rfl rfl (R_extract rfl rfl rfl) ?_
  refine WL_val rfl rfl rfl (R_extract rfl rfl rfl) ?_
  refine WL_val rfl rfl rfl (R_assign rfl rfl) ?_
  refine WL_val rfl rfl rfl (R_assign rfl rfl) ?_
  refine WL_nil ?_
  refine WQ_code ?_
  refine WC_region ?_
  refine WL_val rfl rfl rfl (R_move rfl rfl) ?_
  refine WL_val rfl rfl rfl (R_move rfl rfl) ?_
  refine WL_val rfl rfl rfl (R_move rfl rfl) ?_
  refine WL_val rfl rfl rfl (R_move rfl rfl) ?_
  refine WL_do rfl rfl rfl (D_call (pdial_ok h1 x.who hne) rfl rfl rfl rfl (pqZ)) ?_
  rintro _ _ ⟨_, ⟨rfl, rfl⟩, rfl⟩
  refine WL_do rfl rfl rfl (D_call (ptell_ok (h1.dial x.who) 2 x.who ((s.set c ⟨0, 0, 0⟩).free : Int) hE) rfl rfl rfl rfl (pqZ)) ?_
  rintro _ _ ⟨_, ⟨ob, ek, ec, epre, etl, rfl, rfl, hoS⟩, rfl⟩
  refine WL_nil ?_
  refine WQ_ret rfl rfl .nil rfl (by
      exact ⟨{ m1 with eb := ob, ek := ek, ec := ec, epre := epre, etl := etl }, rfl, rfl, rfl, (h1.dial x.who).tell hoS⟩) (pqZ)
theorem plose_ok {m : PM} {s : PS} (h : PIs m s) (c : Nat) (hc : c < 64) (hE : s.E.length ≤ 1000000) : Spec Try.prog 27 [ptrP m.p, .int .i64 (c : Int)] (poH m s) (fun r H' => ∃ m', r = .tuple #[] ∧ H' = poH m' (s.lose c) ∧ m'.p = m.p ∧ PIs m' (s.lose c)) := by
  cases hQ : s.Q with
  | nil => exact plose_none h c hc hE (.inl hQ)
  | cons x r =>
    cases hr : (s.set c ⟨0, 0, 0⟩).room with
    | false => exact plose_none h c hc hE (.inr hr)
    | true => exact plose_some h c hc hE hQ hr
end Go.Proofs.Yteofigbgdbpjgaa
end
section
set_option linter.unusedVariables false
set_option maxRecDepth 20000
set_option maxHeartbeats 1000000
namespace Go.Proofs.Yteofigbgdbpjgaa
theorem pin_ok {m : PM} {s : PS} (h : PIs m s) (hE : s.E.length ≤ 10000) (c st : Int) (now : Nat) : Spec Try.prog 26 [ptrP m.p, .int .i64 c, .int .i64 st, .int .u64 (now : Int)] [poP m s] (fun r H' => r = .int .i64 (s.inE c st now) ∧ H' = [poP m s]) := by
  refine Spec.of (E := [(0, ptrP m.p), (1, .int .i64 c), (2, .int .i64 st), (3, .int .u64 (now : Int))]) Try.func26 rfl (by kernel_rfl) Try.ntmps26 rfl rfl (fun w => ?_)
  refine WC_seq ?_
  refine WC_region ?_
  refine WL_val rfl rfl rfl (R_assign rfl rfl) ?_
  refine WL_nil ?_
  refine WQ_code ?_
  refine WC_seq ?_
  refine WC_region ?_
  refine WL_val rfl rfl rfl (R_move rfl rfl) ?_
  refine WL_val rfl rfl rfl (R_move rfl rfl) ?_
  refine WL_val rfl rfl rfl (R_geq rfl rfl rfl) ?_
  refine WL_val rfl rfl rfl (R_move rfl rfl) ?_
  refine WL_do rfl rfl rfl (D_call (pmay_ok h (decide (0 ≤ c)) now) rfl rfl rfl rfl (pqZ)) ?_
  rintro _ _ ⟨_, ⟨rfl, rfl⟩, rfl⟩
  refine WL_val rfl rfl rfl (R_assign rfl rfl) ?_
  refine WL_nil ?_
  refine WQ_code ?_
  refine WC_seq ?_
  refine WC_block ?_
  refine WC_seq ?_
  refine WC_region ?_
  refine WL_val rfl rfl rfl (R_move rfl rfl) ?_
  refine WL_val rfl rfl rfl (R_neq rfl rfl rfl) ?_
  refine WL_val rfl rfl rfl (R_assign rfl rfl) ?_
  refine WL_nil ?_
  refine WQ_code ?_
  refine WC_dec rfl (fun c1 => ?_) (fun c1 => ?_)
  · have hm := c1
    refine WC_seq ?_
    refine WC_region ?_
    refine WL_val rfl rfl rfl (R_move rfl rfl) ?_
    refine WL_val rfl rfl rfl (R_assign rfl rfl) ?_
    refine WL_nil ?_
    refine WQ_code ?_
    refine WC_ret ?_
    refine WQ_ret rfl rfl (.cons (.tmp rfl) .nil) rfl (by
        first | exact ⟨congrArg (Value.int .i64) (inE_may hm).symm, rfl⟩ | exact ⟨congrArg (Value.int .i64) (inE_none hm (.inl (by omega))).symm, rfl⟩ | exact ⟨congrArg (Value.int .i64) (inE_none hm (.inr (by rw [Int.toNat_natCast, hx]; simpa using hc))).symm, rfl⟩ | exact ⟨congrArg (Value.int .i64) (inE_ok hm (by rw [Int.toNat_natCast, hx]; simp only [Option.map_some, Option.some.injEq, ne_eq]; omega)).symm, rfl⟩) (pqZ)
  · have hm : s.may (decide (0 ≤ c)) now = 0 := Decidable.byContradiction c1
    obtain ⟨k, rfl⟩ : ∃ k : Nat, c = (k : Int) := ⟨c.toNat, by have := of_decide_eq_true (may_zero hm).1; omega⟩
    refine WC_seq ?_
    refine WC_region ?_
    refine WL_val rfl rfl rfl (R_move rfl rfl) ?_
    refine WL_val rfl rfl rfl (R_geq rfl rfl rfl) ?_
    refine WL_val rfl rfl rfl (R_move rfl rfl) ?_
    refine WL_splitD (s := 22) rfl (fun c2 => ?_) (fun c2 => ?_)
    · have hg := c2
      refine WL_skip rfl rfl rfl ?_
      refine WL_skip rfl rfl rfl ?_
      refine WL_skip rfl rfl rfl ?_
      refine WL_skip rfl rfl rfl ?_
      refine WL_skip rfl rfl rfl ?_
      refine WL_skip rfl rfl rfl ?_
      refine WL_skip rfl rfl rfl ?_
      refine WL_skip rfl rfl rfl ?_
      refine WL_skip rfl rfl rfl ?_
      refine WL_val rfl rfl rfl (R_pickT rfl rfl rfl) ?_
      refine WL_val rfl rfl rfl (R_assign rfl rfl) ?_
      refine WL_nil ?_
      refine WQ_code ?_
      refine WC_T rfl ?_
      refine WC_seq ?_
      refine WC_region ?_
      refine WL_val rfl rfl rfl (R_assign rfl rfl) ?_
      refine WL_nil ?_
      refine WQ_code ?_
      refine WC_ret ?_
      refine WQ_ret rfl rfl (.cons (.tmp rfl) .nil) rfl (by
          first | exact ⟨congrArg (Value.int .i64) (inE_may hm).symm, rfl⟩ | exact ⟨congrArg (Value.int .i64) (inE_none hm (.inl (by omega))).symm, rfl⟩ | exact ⟨congrArg (Value.int .i64) (inE_none hm (.inr (by rw [Int.toNat_natCast, hx]; simpa using hc))).symm, rfl⟩ | exact ⟨congrArg (Value.int .i64) (inE_ok hm (by rw [Int.toNat_natCast, hx]; simp only [Option.map_some, Option.some.injEq, ne_eq]; omega)).symm, rfl⟩) (pqZ)
    · have hg := c2
      obtain ⟨x, hx⟩ := getE (T := s.C) (i := k) (by rw [h.cl]; omega)
      refine WL_val rfl rfl rfl (R_move rfl rfl) ?_
      refine WL_val rfl rfl rfl (R_move rfl rfl) ?_
      refine WL_val rfl rfl rfl (R_nilCheck rfl rfl) ?_
      refine WL_val rfl rfl rfl (R_fieldAddr rfl fa71_4 rfl) ?_
      refine WL_val rfl rfl rfl (R_indexAddrAN rfl Try.underlying67 Try.sizeOf66 rfl rfl (by omega)) ?_
      refine WL_val rfl rfl rfl (R_fieldAddr rfl fa66_0 rfl) ?_
      refine WL_val rfl rfl rfl (R_load (v := .int .i64 x.st) rfl sc64 rfl (mmZ) (pc_get (A := pcH s) rfl hx (j := 0) (by omega))) ?_
      refine WL_val rfl rfl rfl (R_move rfl rfl) ?_
      refine WL_val rfl rfl rfl (R_neq rfl rfl rfl) ?_
      refine WL_val rfl rfl rfl (R_pickF rfl rfl rfl) ?_
      refine WL_val rfl rfl rfl (R_assign rfl rfl) ?_
      refine WL_nil ?_
      refine WQ_code ?_
      refine WC_dec rfl (fun c3 => ?_) (fun c3 => ?_)
      · have hc := c3
        refine WC_seq ?_
        refine WC_region ?_
        refine WL_val rfl rfl rfl (R_assign rfl rfl) ?_
        refine WL_nil ?_
        refine WQ_code ?_
        refine WC_ret ?_
        refine WQ_ret rfl rfl (.cons (.tmp rfl) .nil) rfl (by
            first | exact ⟨congrArg (Value.int .i64) (inE_may hm).symm, rfl⟩ | exact ⟨congrArg (Value.int .i64) (inE_none hm (.inl (by omega))).symm, rfl⟩ | exact ⟨congrArg (Value.int .i64) (inE_none hm (.inr (by rw [Int.toNat_natCast, hx]; simpa using hc))).symm, rfl⟩ | exact ⟨congrArg (Value.int .i64) (inE_ok hm (by rw [Int.toNat_natCast, hx]; simp only [Option.map_some, Option.some.injEq, ne_eq]; omega)).symm, rfl⟩) (pqZ)
      · have hc := c3
        refine WC_skip ?_
        refine WQ_code ?_
        refine WC_seq ?_
        refine WC_region ?_
        refine WL_val rfl rfl rfl (R_move rfl rfl) ?_
        refine WL_do rfl rfl rfl (D_call (pfull_ok h hE) rfl rfl rfl rfl (pqZ)) ?_
        rintro _ _ ⟨_, ⟨rfl, rfl⟩, rfl⟩
        refine WL_val rfl rfl rfl (R_assign rfl rfl) ?_
        refine WL_nil ?_
        refine WQ_code ?_
        refine WC_ret ?_
        refine WQ_ret rfl rfl (.cons (.tmp rfl) .nil) rfl (by
            first | exact ⟨congrArg (Value.int .i64) (inE_may hm).symm, rfl⟩ | exact ⟨congrArg (Value.int .i64) (inE_none hm (.inl (by omega))).symm, rfl⟩ | exact ⟨congrArg (Value.int .i64) (inE_none hm (.inr (by rw [Int.toNat_natCast, hx]; simpa using hc))).symm, rfl⟩ | exact ⟨congrArg (Value.int .i64) (inE_ok hm (by rw [Int.toNat_natCast, hx]; simp only [Option.map_some, Option.some.injEq, ne_eq]; omega)).symm, rfl⟩) (pqZ)
theorem pdialed_ok {m : PM} {s : PS} (h : PIs m s) (hE : s.E.length ≤ 10000) (c : Int) (made : Bool) (now : Nat) (hb : now ≤ 18446744073709551615) : Spec Try.prog 10 [ptrP m.p, .int .i64 c, .bool made, .int .u64 (now : Int)] (poH m s) (fun r H' => ∃ m', r = .int .i64 (s.inE c 1 now) ∧ H' = poH m' (s.dialed c made now) ∧ m'.p = m.p ∧ PIs m' (s.dialed c made now)) := by
  refine Spec.of (E := [(0, ptrP m.p), (1, .int .i64 c), (2, .bool made), (3, .int .u64 (now : Int))]) Try.func10 rfl (by kernel_rfl) Try.ntmps10 rfl rfl (fun w => ?_)
  refine WC_seq ?_
  refine WC_region ?_
  refine WL_val rfl rfl rfl (R_assign rfl rfl) ?_
  refine WL_nil ?_
  refine WQ_code ?_
  refine WC_seq ?_
  refine WC_seq ?_
  refine WC_region ?_
  refine WL_val rfl rfl rfl (R_move rfl rfl) ?_
  refine WL_val rfl rfl rfl (R_move rfl rfl) ?_
  refine WL_val rfl rfl rfl (R_move rfl rfl) ?_
  refine WL_do rfl rfl rfl (D_call (pin_ok h hE c 1 now) rfl rfl rfl rfl (pqZ)) ?_
  rintro _ _ ⟨_, ⟨rfl, rfl⟩, rfl⟩
  refine WL_val rfl rfl rfl (R_assign rfl rfl) ?_
  refine WL_nil ?_
  refine WQ_code ?_
  refine WC_seq ?_
  refine WC_region ?_
  refine WL_val rfl rfl rfl (R_move rfl rfl) ?_
  refine WL_val rfl rfl rfl (R_neq rfl rfl rfl) ?_
  refine WL_nil ?_
  refine WQ_code ?_
  refine WC_dec rfl (fun c1 => ?_) (fun c1 => ?_)
  · have hm := c1
    refine WC_seq ?_
    refine WC_region ?_
    refine WL_val rfl rfl rfl (R_move rfl rfl) ?_
    refine WL_val rfl rfl rfl (R_assign rfl rfl) ?_
    refine WL_nil ?_
    refine WQ_code ?_
    refine WC_ret ?_
    refine WQ_ret rfl rfl (.cons (.tmp rfl) .nil) rfl (by
        exact ⟨m, rfl, by rw [dialed_no hm], rfl, by rw [dialed_no hm]; exact h⟩) (pqZ)
  · have hm : s.inE c 1 now = 0 := Decidable.byContradiction c1
    obtain ⟨k, x, rfl, hk, hx, hst, hle, hne⟩ := inE_zero hm
    refine WC_skip ?_
    refine WQ_code ?_
    refine WC_seq ?_
    refine WC_region ?_
    refine WL_val rfl rfl rfl (R_move rfl rfl) ?_
    refine WL_val rfl rfl rfl (R_move rfl rfl) ?_
    refine WL_val rfl rfl rfl (R_nilCheck rfl rfl) ?_
    refine WL_val rfl rfl rfl (R_fieldAddr rfl fa71_3 rfl) ?_
    refine WL_do0 rfl rfl (D_store (vs := [_]) rfl Try.sizeOf28 rfl rfl rfl rfl rfl (plZ) (by exact pc_nowr m s)) ?_
    rintro _ _ rfl
    rw [pc_now]
    have h0 := h.at_ (now := now) hle (by omega)
    refine WL_nil ?_
    refine WQ_code ?_
    refine WC_seq ?_
    refine WC_seq ?_
    refine WC_region ?_
    refine WL_val rfl rfl rfl (R_move rfl rfl) ?_
    refine WL_nil ?_
    refine WQ_code ?_
    refine WC_if rfl (fun c2 => ?_) (fun c2 => ?_)
    · subst c2
      refine WC_region ?_
      refine WL_val rfl rfl rfl (R_move rfl rfl) ?_
      refine WL_val rfl rfl rfl (R_move rfl rfl) ?_
      refine WL_val rfl rfl rfl (R_build rfl zv66 pl66 rfl rfl) ?_
      refine WL_val rfl rfl rfl (R_nilCheck rfl rfl) ?_
      refine WL_val rfl rfl rfl (R_fieldAddr rfl fa71_4 rfl) ?_
      refine WL_val rfl rfl rfl (R_indexAddrAN rfl Try.underlying67 Try.sizeOf66 rfl rfl (by omega)) ?_
      refine WL_do0 rfl rfl (D_store (vs := [_, _, _]) rfl Try.sizeOf66 rfl rfl rfl rfl rfl (plZ) (by exact pc_room h.cl rfl (by omega))) ?_
      rintro _ _ rfl
      rw [show putAt _ _ [.int .i64 (2), .int .i64 (0), .int .u64 (0)] = _ from pc_put (A := pcH _) rfl (y := ⟨2, 0, 0⟩) (show (s.at_ now).C[k]? = some x from hx) rfl]
      refine WL_nil ?_
      refine WQ_code ?_
      refine WC_seq ?_
      refine WC_region ?_
      refine WL_val rfl rfl rfl (R_assign rfl rfl) ?_
      refine WL_nil ?_
      refine WQ_code ?_
      refine WC_ret ?_
      refine WQ_ret rfl rfl (.cons (.tmp rfl) .nil) rfl (by
          exact ⟨m, congrArg (Value.int .i64) hm.symm, by rw [dialed_made hm], rfl, by rw [dialed_made hm]; exact h0.set (Nat.zero_le _) (⟨by decide, by decide⟩ : (0 : Int) ≤ 2 ∧ (2 : Int) ≤ 3)⟩) (pqZ)
    · subst c2
      refine WC_region ?_
      refine WL_val rfl rfl rfl (R_move rfl rfl) ?_
      refine WL_val rfl rfl rfl (R_move rfl rfl) ?_
      refine WL_do rfl rfl rfl (D_call (plose_ok h0 k (by omega) (by show s.E.length ≤ _; omega)) rfl rfl rfl rfl (pqZ)) ?_
      rintro _ _ ⟨_, ⟨m1, rfl, rfl, hp1, h1⟩, rfl⟩
      refine WL_nil ?_
      refine WQ_code ?_
      refine WC_seq ?_
      refine WC_region ?_
      refine WL_val rfl rfl rfl (R_assign rfl rfl) ?_
      refine WL_nil ?_
      refine WQ_code ?_
      refine WC_ret ?_
      refine WQ_ret rfl rfl (.cons (.tmp rfl) .nil) rfl (by
          exact ⟨m1, congrArg (Value.int .i64) hm.symm, by rw [dialed_lost hm], hp1, by rw [dialed_lost hm]; exact h1⟩) (pqZ)
end Go.Proofs.Yteofigbgdbpjgaa
end
section
set_option linter.unusedVariables false
set_option maxRecDepth 20000
set_option maxHeartbeats 1000000
namespace Go.Proofs.Yteofigbgdbpjgaa
theorem pput_true {m : PM} {s : PS} (h : PIs m s) (hE : s.E.length ≤ 10000) (c : Int) (now : Nat) (hb : now ≤ 18446744073709551615) : Spec Try.prog 12 [ptrP m.p, .int .i64 c, .bool true, .int .u64 (now : Int)] (poH m s) (fun r H' => ∃ m', r = .int .i64 (s.inE c 2 now) ∧ H' = poH m' (s.put c true now) ∧ m'.p = m.p ∧ PIs m' (s.put c true now)) := by
  refine Spec.of (E := [(0, ptrP m.p), (1, .int .i64 c), (2, .bool true), (3, .int .u64 (now : Int))]) Try.func12 rfl (by kernel_rfl) Try.ntmps12 rfl rfl (fun w => ?_)
  refine WC_seq ?_
  refine WC_region ?_
  refine WL_val rfl rfl rfl (R_assign rfl rfl) ?_
  refine WL_nil ?_
  refine WQ_code ?_
  refine WC_seq ?_
  refine WC_seq ?_
  refine WC_region ?_
  refine WL_val rfl rfl rfl (R_move rfl rfl) ?_
  refine WL_val rfl rfl rfl (R_move rfl rfl) ?_
  refine WL_val rfl rfl rfl (R_move rfl rfl) ?_
  refine WL_do rfl rfl rfl (D_call (pin_ok h hE c 2 now) rfl rfl rfl rfl (pqZ)) ?_
  rintro _ _ ⟨_, ⟨rfl, rfl⟩, rfl⟩
  refine WL_val rfl rfl rfl (R_assign rfl rfl) ?_
  refine WL_nil ?_
  refine WQ_code ?_
  refine WC_seq ?_
  refine WC_region ?_
  refine WL_val rfl rfl rfl (R_move rfl rfl) ?_
  refine WL_val rfl rfl rfl (R_neq rfl rfl rfl) ?_
  refine WL_nil ?_
  refine WQ_code ?_
  refine WC_dec rfl (fun c1 => ?_) (fun c1 => ?_)
  · have hm := c1
    refine WC_seq ?_
    refine WC_region ?_
    refine WL_val rfl rfl rfl (R_move rfl rfl) ?_
    refine WL_val rfl rfl rfl (R_assign rfl rfl) ?_
    refine WL_nil ?_
    refine WQ_code ?_
    refine WC_ret ?_
    refine WQ_ret rfl rfl (.cons (.tmp rfl) .nil) rfl (by
        exact ⟨m, rfl, by rw [put_no hm], rfl, by rw [put_no hm]; exact h⟩) (pqZ)
  · have hm : s.inE c 2 now = 0 := Decidable.byContradiction c1
    obtain ⟨k, x, rfl, hk, hx, hst, hle, hne⟩ := inE_zero hm
    refine WC_skip ?_
    refine WQ_code ?_
    refine WC_seq ?_
    refine WC_region ?_
    refine WL_val rfl rfl rfl (R_move rfl rfl) ?_
    refine WL_val rfl rfl rfl (R_move rfl rfl) ?_
    refine WL_val rfl rfl rfl (R_nilCheck rfl rfl) ?_
    refine WL_val rfl rfl rfl (R_fieldAddr rfl fa71_3 rfl) ?_
    refine WL_do0 rfl rfl (D_store (vs := [_]) rfl Try.sizeOf28 rfl rfl rfl rfl rfl (plZ) (by exact pc_nowr m s)) ?_
    rintro _ _ rfl
    rw [pc_now]
    have h0 := h.at_ (now := now) hle (by omega)
    refine WL_nil ?_
    refine WQ_code ?_
    refine WC_seq ?_
    refine WC_block ?_
    refine WC_seq ?_
    refine WC_region ?_
    refine WL_val rfl rfl rfl (R_move rfl rfl) ?_
    refine WL_val rfl rfl rfl (R_move rfl rfl) ?_
    refine WL_val rfl rfl rfl (R_move rfl rfl) ?_
    refine WL_val rfl rfl rfl (R_nilCheck rfl rfl) ?_
    refine WL_val rfl rfl rfl (R_fieldAddr rfl fa71_5 rfl) ?_
    refine WL_val rfl rfl rfl (R_load (v := ptrQ m.q) rfl sc68 rfl (mmZ) (pc_t h0.cl rfl 0)) ?_
    refine WL_do rfl rfl rfl (D_call (qlen_ok m.q m.qm (fq s.Q) s.n m.qes m.qmc h.qk h.qM) rfl rfl rfl rfl (pqZ)) ?_
    rintro _ _ ⟨_, ⟨rfl, rfl⟩, rfl⟩
    refine WL_val rfl rfl rfl (R_gtr rfl rfl rfl) ?_
    refine WL_val rfl rfl rfl (R_pickT rfl rfl rfl) ?_
    refine WL_val rfl rfl rfl (R_assign rfl rfl) ?_
    refine WL_nil ?_
    refine WQ_code ?_
    refine WC_dec rfl (fun c2 => ?_) (fun c2 => ?_)
    · obtain ⟨xq, rq, hQ⟩ : ∃ x r, s.Q = x :: r := by cases hq9 : s.Q with | nil => exact absurd c2 (by show ¬ ((fq s.Q).length : Int) > 0; rw [hq9]; simp) | cons x r => exact ⟨x, r, rfl⟩
      refine WC_seq ?_
      refine WC_region ?_
      refine WL_val rfl rfl rfl (R_move rfl rfl) ?_
      refine WL_do rfl rfl rfl (D_call (pfirst_ok h0 (x := xq) (r := rq) hQ) rfl rfl rfl rfl (pqZ)) ?_
      rintro _ _ ⟨_, ⟨m1, rfl, rfl, hp1, h1⟩, rfl⟩
      rw [← hp1]
      refine WL_val rfl rfl rfl (R_move rfl rfl) ?_
      refine WL_val rfl rfl rfl (R_extract rfl rfl rfl) ?_
      refine WL_val rfl rfl rfl (R_extract rfl rfl rfl) ?_
      refine WL_val rfl rfl rfl (R_assign rfl rfl) ?_
      refine WL_val rfl rfl rfl (R_assign rfl rfl) ?_
      refine WL_nil ?_
      refine WQ_code ?_
      refine WC_region ?_
      refine WL_val rfl rfl rfl (R_move rfl rfl) ?_
      refine WL_val rfl rfl rfl (R_move rfl rfl) ?_
      refine WL_val rfl rfl rfl (R_move rfl rfl) ?_
      refine WL_do rfl rfl rfl (D_call (ptell_ok h1 1 xq.who (k : Int) (by show s.E.length ≤ _; omega)) rfl rfl rfl rfl (pqZ)) ?_
      rintro _ _ ⟨_, ⟨ob, ek, ec, epre, etl, rfl, rfl, hoS⟩, rfl⟩
      refine WL_nil ?_
      refine WQ_code ?_
      refine WC_seq ?_
      refine WC_region ?_
      refine WL_val rfl rfl rfl (R_assign rfl rfl) ?_
      refine WL_nil ?_
      refine WQ_code ?_
      refine WC_ret ?_
      refine WQ_ret rfl rfl (.cons (.tmp rfl) .nil) rfl (by
          exact ⟨{ m1 with eb := ob, ek := ek, ec := ec, epre := epre, etl := etl }, congrArg (Value.int .i64) hm.symm, by rw [put_use hm hQ], rfl, by rw [put_use hm hQ]; exact h1.tell hoS⟩) (pqZ)
    · have hQ : s.Q = [] := by cases hq9 : s.Q with | nil => rfl | cons x r => exact absurd (by show ((fq s.Q).length : Int) > 0; rw [hq9]; simp <;> omega) c2
      refine WC_seq ?_
      refine WC_draw ([poP m (s.at_ now)]) [(0, true), (1, true), (2, true), (5, true), (6, true), (7, true), (8, true), (3, false), (4, true), (9, true), (10, true), (11, true)] followsMixed rfl rfl (by kernel_rfl) pqZ ?_
      refine WM_val rfl rfl rfl rfl (R_move rfl rfl) ?_
      refine WM_val rfl rfl rfl rfl (R_move rfl rfl) ?_
      refine WM_val rfl rfl rfl rfl (R_move rfl rfl) ?_
      refine WM_val rfl rfl rfl rfl (R_move rfl rfl) ?_
      refine WM_val rfl rfl rfl rfl (R_nilCheck rfl rfl) ?_
      refine WM_val rfl rfl rfl rfl (R_fieldAddr rfl fa71_1 rfl) ?_
      refine WM_val rfl rfl rfl rfl (R_load rfl sc3 rfl (mmZ) rfl) ?_
      refine WM_do rfl rfl rfl rfl (D_call (pall_ok h0 3) rfl rfl rfl rfl (pqZ)) ?_
      rintro _ _ ⟨_, ⟨o9, c9, tl9, rfl, own9, rfl⟩, rfl⟩
      refine ⟨⟨_, pqZ⟩, ?_⟩
      refine WM_val rfl rfl rfl rfl (R_len rfl Try.underlying78 rfl) ?_
      refine WM_val rfl rfl rfl rfl (R_lss rfl rfl rfl) ?_
      refine WM_val rfl rfl rfl rfl (R_pickT rfl rfl rfl) ?_
      refine WM_val rfl rfl rfl rfl (R_assign rfl rfl) ?_
      refine WM_nil ?_
      refine WQ_code ?_
      refine WC_dec rfl (fun c3 => ?_) (fun c3 => ?_)
      · have hl : (allI 3 s.C).length < s.most := by have h9 : ((allI 3 s.C).length : Int) < (s.most : Int) := c3; omega
        refine WC_region ?_
        refine WL_val rfl rfl rfl (R_move rfl rfl) ?_
        refine WL_val rfl rfl rfl (R_move rfl rfl) ?_
        refine WL_val rfl rfl rfl (R_move rfl rfl) ?_
        refine WL_val rfl rfl rfl (R_build rfl zv66 pl66 rfl rfl) ?_
        refine WL_val rfl rfl rfl (R_nilCheck rfl rfl) ?_
        refine WL_val rfl rfl rfl (R_fieldAddr rfl fa71_4 rfl) ?_
        refine WL_val rfl rfl rfl (R_indexAddrAN rfl Try.underlying67 Try.sizeOf66 rfl rfl (by omega)) ?_
        refine WL_do0 rfl rfl (D_store (vs := [_, _, _]) rfl Try.sizeOf66 rfl rfl rfl rfl rfl (plZ) (by exact pc_room h.cl rfl (by omega))) ?_
        rintro _ _ rfl
        rw [show putAt _ _ [.int .i64 (3), .int .i64 (0), .int .u64 ((now : Nat) : Int)] = _ from pc_put (A := pcH _) rfl (y := ⟨3, 0, now⟩) (show (s.at_ now).C[k]? = some x from hx) rfl]
        refine WL_nil ?_
        refine WQ_code ?_
        refine WC_seq ?_
        refine WC_region ?_
        refine WL_val rfl rfl rfl (R_assign rfl rfl) ?_
        refine WL_nil ?_
        refine WQ_code ?_
        refine WC_ret ?_
        refine WQ_ret rfl rfl (.cons (.tmp rfl) .nil) rfl (by
            exact ⟨m, congrArg (Value.int .i64) hm.symm, by rw [put_idle hm hQ hl], rfl, by rw [put_idle hm hQ hl]; exact h0.set (Nat.le_refl _) (⟨by decide, by decide⟩ : (0 : Int) ≤ 3 ∧ (3 : Int) ≤ 3)⟩) (pqZ)
      · have hl : ¬ (allI 3 s.C).length < s.most := by have h9 : ¬ ((allI 3 s.C).length : Int) < (s.most : Int) := c3; omega
        refine WC_seq ?_
        refine WC_region ?_
        refine WL_val rfl rfl rfl (R_move rfl rfl) ?_
        refine WL_val rfl rfl rfl (R_move rfl rfl) ?_
        refine WL_do rfl rfl rfl (D_call (ptell_ok h0 5 (-1) (k : Int) (by show s.E.length ≤ _; omega)) rfl rfl rfl rfl (pqZ)) ?_
        rintro _ _ ⟨_, ⟨ob, ek, ec, epre, etl, rfl, rfl, hoS⟩, rfl⟩
        refine WL_nil ?_
        refine WQ_code ?_
        refine WC_region ?_
        refine WL_val rfl rfl rfl (R_move rfl rfl) ?_
        refine WL_val rfl rfl rfl (R_move rfl rfl) ?_
        refine WL_do rfl rfl rfl (D_call (plose_ok (h0.tell hoS) k (by omega) (by show (s.E ++ [_]).length ≤ _; rw [List.length_append]; simp; omega)) rfl rfl rfl rfl (pqZ)) ?_
        rintro _ _ ⟨_, ⟨m2, rfl, rfl, hp2, h2⟩, rfl⟩
        refine WL_nil ?_
        refine WQ_code ?_
        refine WC_seq ?_
        refine WC_region ?_
        refine WL_val rfl rfl rfl (R_assign rfl rfl) ?_
        refine WL_nil ?_
        refine WQ_code ?_
        refine WC_ret ?_
        refine WQ_ret rfl rfl (.cons (.tmp rfl) .nil) rfl (by
            exact ⟨m2, congrArg (Value.int .i64) hm.symm, by rw [put_over hm hQ hl], hp2, by rw [put_over hm hQ hl]; exact h2⟩) (pqZ)
theorem pput_false {m : PM} {s : PS} (h : PIs m s) (hE : s.E.length ≤ 10000) (c : Int) (now : Nat) (hb : now ≤ 18446744073709551615) : Spec Try.prog 12 [ptrP m.p, .int .i64 c, .bool false, .int .u64 (now : Int)] (poH m s) (fun r H' => ∃ m', r = .int .i64 (s.inE c 2 now) ∧ H' = poH m' (s.put c false now) ∧ m'.p = m.p ∧ PIs m' (s.put c false now)) := by
  refine Spec.of (E := [(0, ptrP m.p), (1, .int .i64 c), (2, .bool false), (3, .int .u64 (now : Int))]) Try.func12 rfl (by kernel_rfl) Try.ntmps12 rfl rfl (fun w => ?_)
  refine WC_seq ?_
  refine WC_region ?_
  refine WL_val rfl rfl rfl (R_assign rfl rfl) ?_
  refine WL_nil ?_
  refine WQ_code ?_
  refine WC_seq ?_
  refine WC_seq ?_
  refine WC_region ?_
  refine WL_val rfl rfl rfl (R_move rfl rfl) ?_
  refine WL_val rfl rfl rfl (R_move rfl rfl) ?_
  refine WL_val rfl rfl rfl (R_move rfl rfl) ?_
  refine WL_do rfl rfl rfl (D_call (pin_ok h hE c 2 now) rfl rfl rfl rfl (pqZ)) ?_
  rintro _ _ ⟨_, ⟨rfl, rfl⟩, rfl⟩
  refine WL_val rfl rfl rfl (R_assign rfl rfl) ?_
  refine WL_nil ?_
  refine WQ_code ?_
  refine WC_seq ?_
  refine WC_region ?_
  refine WL_val rfl rfl rfl (R_move rfl rfl) ?_
  refine WL_val rfl rfl rfl (R_neq rfl rfl rfl) ?_
  refine WL_nil ?_
  refine WQ_code ?_
  refine WC_dec rfl (fun c1 => ?_) (fun c1 => ?_)
  · have hm := c1
    refine WC_seq ?_
    refine WC_region ?_
    refine WL_val rfl rfl rfl (R_move rfl rfl) ?_
    refine WL_val rfl rfl rfl (R_assign rfl rfl) ?_
    refine WL_nil ?_
    refine WQ_code ?_
    refine WC_ret ?_
    refine WQ_ret rfl rfl (.cons (.tmp rfl) .nil) rfl (by
        exact ⟨m, rfl, by rw [put_no hm], rfl, by rw [put_no hm]; exact h⟩) (pqZ)
  · have hm : s.inE c 2 now = 0 := Decidable.byContradiction c1
    obtain ⟨k, x, rfl, hk, hx, hst, hle, hne⟩ := inE_zero hm
    refine WC_skip ?_
    refine WQ_code ?_
    refine WC_seq ?_
    refine WC_region ?_
    refine WL_val rfl rfl rfl (R_move rfl rfl) ?_
    refine WL_val rfl rfl rfl (R_move rfl rfl) ?_
    refine WL_val rfl rfl rfl (R_nilCheck rfl rfl) ?_
    refine WL_val rfl rfl rfl (R_fieldAddr rfl fa71_3 rfl) ?_
    refine WL_do0 rfl rfl (D_store (vs := [_]) rfl Try.sizeOf28 rfl rfl rfl rfl rfl (plZ) (by exact pc_nowr m s)) ?_
    rintro _ _ rfl
    rw [pc_now]
    have h0 := h.at_ (now := now) hle (by omega)
    refine WL_nil ?_
    refine WQ_code ?_
    refine WC_seq ?_
    refine WC_block ?_
    refine WC_seq ?_
    refine WC_region ?_
    refine WL_val rfl rfl rfl (R_move rfl rfl) ?_
    refine WL_val rfl rfl rfl (R_move rfl rfl) ?_
    refine WL_skip rfl rfl rfl ?_
    refine WL_skip rfl rfl rfl ?_
    refine WL_skip rfl rfl rfl ?_
    refine WL_skip rfl rfl rfl ?_
    refine WL_skip rfl rfl rfl ?_
    refine WL_skip rfl rfl rfl ?_
    refine WL_val rfl rfl rfl (R_pickF rfl rfl rfl) ?_
    refine WL_val rfl rfl rfl (R_assign rfl rfl) ?_
    refine WL_nil ?_
    refine WQ_code ?_
    refine WC_F rfl ?_
    refine WC_seq ?_
    refine WC_draw _ [(0, true), (1, true), (2, true), (5, true), (6, true), (7, true), (8, true), (3, false), (4, true), (9, true), (10, true), (11, true)] followsMixed rfl rfl (by kernel_rfl) .all ?_
    refine WM_val rfl rfl rfl rfl (R_move rfl rfl) ?_
    refine WM_val rfl rfl rfl rfl (R_move rfl rfl) ?_
    refine WM_skip rfl rfl rfl rfl ?_
    refine WM_skip rfl rfl rfl rfl ?_
    refine WM_skip rfl rfl rfl rfl ?_
    refine WM_skip rfl rfl rfl rfl ?_
    refine WM_skip rfl rfl rfl rfl ?_
    refine WM_skipF rfl rfl rfl rfl (pqZ) ?_
    refine WM_skip rfl rfl rfl rfl ?_
    refine WM_skip rfl rfl rfl rfl ?_
    refine WM_val rfl rfl rfl rfl (R_pickF rfl rfl rfl) ?_
    refine WM_val rfl rfl rfl rfl (R_assign rfl rfl) ?_
    refine WM_nil ?_
    refine WQ_code ?_
    refine WC_F rfl ?_
    refine WC_seq ?_
    refine WC_region ?_
    refine WL_val rfl rfl rfl (R_move rfl rfl) ?_
    refine WL_val rfl rfl rfl (R_move rfl rfl) ?_
    refine WL_do rfl rfl rfl (D_call (ptell_ok h0 5 (-1) (k : Int) (by show s.E.length ≤ _; omega)) rfl rfl rfl rfl (pqZ)) ?_
    rintro _ _ ⟨_, ⟨ob, ek, ec, epre, etl, rfl, rfl, hoS⟩, rfl⟩
    refine WL_nil ?_
    refine WQ_code ?_
    refine WC_region ?_
    refine WL_val rfl rfl rfl (R_move rfl rfl) ?_
    refine WL_val rfl rfl rfl (R_move rfl rfl) ?_
    refine WL_do rfl rfl rfl (D_call (plose_ok (h0.tell hoS) k (by omega) (by show (s.E ++ [_]).length ≤ _; rw [List.length_append]; simp; omega)) rfl rfl rfl rfl (pqZ)) ?_
    rintro _ _ ⟨_, ⟨m2, rfl, rfl, hp2, h2⟩, rfl⟩
    refine WL_nil ?_
    refine WQ_code ?_
    refine WC_seq ?_
    refine WC_region ?_
    refine WL_val rfl rfl rfl (R_assign rfl rfl) ?_
    refine WL_nil ?_
    refine WQ_code ?_
    refine WC_ret ?_
    refine WQ_ret rfl rfl (.cons (.tmp rfl) .nil) rfl (by
        exact ⟨m2, congrArg (Value.int .i64) hm.symm, by rw [put_bad hm], hp2, by rw [put_bad hm]; exact h2⟩) (pqZ)
theorem pput_ok {m : PM} {s : PS} (h : PIs m s) (hE : s.E.length ≤ 10000) (c : Int) (good : Bool) (now : Nat) (hb : now ≤ 18446744073709551615) : Spec Try.prog 12 [ptrP m.p, .int .i64 c, .bool good, .int .u64 (now : Int)] (poH m s) (fun r H' => ∃ m', r = .int .i64 (s.inE c 2 now) ∧ H' = poH m' (s.put c good now) ∧ m'.p = m.p ∧ PIs m' (s.put c good now)) := by
  cases good with
  | true => exact pput_true h hE c now hb
  | false => exact pput_false h hE c now hb
theorem pleave_ok {m : PM} {s : PS} (h : PIs m s) {A B : List Qp} {x : Qp} (hQ : s.Q = A ++ x :: B) : Spec Try.prog 45 [ptrP m.p, .int .i64 x.who] (poH m s) (fun r H' => ∃ m', r = .tuple #[] ∧ H' = poH m' (s.leave x.who) ∧ m'.p = m.p ∧ PIs m' (s.leave x.who)) := by
  have hqk := h.qk
  have hqM := h.qM
  have hnd := h.nd
  have hpr := qk_sub h.qk (show (A ++ B).Sublist s.Q by rw [hQ]; exact List.Sublist.append_left (List.sublist_cons_self x B) A)
  have hin : (x.who, (x.t, x.dl)) ∈ wq s.Q := by rw [hQ]; exact List.mem_map_of_mem (List.mem_append_right _ (List.mem_cons_self ..))
  have hlv := leave_eq hQ hnd
  have hdel : delL (wq s.Q) x.who = wq (A ++ B) := by rw [wq_del]; exact congrArg wq (congrArg PS.Q hlv)
  have hfq : fq s.Q = fq A ++ (x.t, x.who) :: fq B := by rw [hQ]; simp [fq]
  have hfq2 : fq (A ++ B) = fq A ++ fq B := by simp [fq]
  rw [hlv]
  rw [hfq] at hqk hqM
  unfold poH
  rw [hfq]
  refine Spec.of (E := [(0, ptrP m.p), (1, .int .i64 x.who)]) Try.func45 rfl (by kernel_rfl) Try.ntmps45 rfl rfl (fun w => ?_)
  refine WC_seq ?_
  refine WC_draw ([poP m s, poW m]) [(0, true), (1, true), (2, true), (3, true), (4, true), (5, true), (6, true), (7, true), (8, true), (9, true), (10, true), (11, false)] followsMixed rfl rfl (by kernel_rfl) pqZ ?_
  refine WM_val rfl rfl rfl rfl (R_move rfl rfl) ?_
  refine WM_val rfl rfl rfl rfl (R_nilCheck rfl rfl) ?_
  refine WM_val rfl rfl rfl rfl (R_fieldAddr rfl fa71_5 rfl) ?_
  refine WM_val rfl rfl rfl rfl (R_load (v := ptrQ m.q) rfl sc68 rfl (mmZ) (pc_t h.cl rfl 0)) ?_
  refine WM_val rfl rfl rfl rfl (R_move rfl rfl) ?_
  refine WM_val rfl rfl rfl rfl (R_nilCheck rfl rfl) ?_
  refine WM_val rfl rfl rfl rfl (R_fieldAddr rfl fa71_6 rfl) ?_
  refine WM_val rfl rfl rfl rfl (R_load (v := .map (some m.wm)) rfl sc69 rfl (mmZ) (pc_t h.cl rfl 1)) ?_
  refine WM_val rfl rfl rfl rfl (R_move rfl rfl) ?_
  refine WM_val rfl rfl rfl rfl (R_lookK (k := x.who) (a := (x.t, x.dl)) rfl Try.underlying69 int_key rfl rfl mmZ h.wM hin) ?_
  refine WM_val rfl rfl rfl rfl (R_field rfl Try.underlying86 rfl rfl sc27 rfl rfl) ?_
  refine WM_do rfl rfl rfl rfl (D_call (qrem_ok m.q m.qm (fq A) (fq B) x.t x.who s.n m.qes m.qmc hqk hqM) rfl rfl rfl rfl (pqZ)) ?_
  rintro _ _ ⟨_, ⟨es1, mc1, rfl, rfl, hM1⟩, rfl⟩
  refine ⟨⟨_, pqZ⟩, ?_⟩
  rw [← hfq2] at hM1 ⊢
  refine WM_nil ?_
  refine WQ_code ?_
  refine WC_region ?_
  refine WL_val rfl rfl rfl (R_move rfl rfl) ?_
  refine WL_val rfl rfl rfl (R_nilCheck rfl rfl) ?_
  refine WL_val rfl rfl rfl (R_fieldAddr rfl fa71_6 rfl) ?_
  refine WL_val rfl rfl rfl (R_load (v := .map (some m.wm)) rfl sc69 rfl (mmZ) (pc_t h.cl rfl 1)) ?_
  refine WL_val rfl rfl rfl (R_move rfl rfl) ?_
  refine WL_do0 rfl rfl (D_deleteK (k := x.who) (a := (x.t, x.dl)) rfl Try.underlying69 int_key rfl rfl plZ h.wM hin) ?_
  rintro _ _ ⟨es9, hM9, rfl⟩
  rw [hdel] at hM9
  refine WL_nil ?_
  refine WQ_ret rfl rfl .nil rfl (by
      exact ⟨{ m with qes := es1, qmc := mc1, wes := es9, wmc := m.wmc }, rfl, rfl, rfl, h.q hpr hM1 hM9 (fun y hy => by rw [hQ]; rcases List.mem_append.1 hy with hy | hy; exact List.mem_append_left _ hy; exact List.mem_append_right _ (List.mem_cons_of_mem _ hy))⟩) (pqZ)
end Go.Proofs.Yteofigbgdbpjgaa
end
section
set_option linter.unusedVariables false
set_option linter.unusedSimpArgs false
namespace Go.Proofs.Yteofigbgdbpjgaa
section
variable {X : Ctx} {E : Env} {H : Heap} {o : Oper}
/-- x[:] of an array that lies in memory. -/
theorem R_sliceArr {t u : TypeId} {x : Operand} {b k n sz : Nat} (ho : o.op = .slice t x none none none) (hu : X.P.underlying t = some (.array n u)) (hs : ∀ w, (sizeOf u).run X.P w = .ok sz w)
    (hx : ev E x = some (.pointer (some ⟨b, k, none⟩))) : Runs X o E H (.slice (some ⟨b, k, none⟩) n n) :=
  ⟨(by rw [ho]; intro c e; cases e), fun a w ha _ => by
    have h : (Instr.sliceAt t (.pointer (some ⟨b, k, none⟩)) none none none).run X.P w = .ok (.slice (some ⟨b, k, none⟩) n n) w := by
      simp [Instr.sliceAt, Instr.sliceBounds, Instr.sliceBound, Instr.sureAddr, run_underlying hu, hs w, addr_add0]
    simp [execOp, ho, ha.eval hx, h]⟩
theorem run_zeroValue {P : Program} {e : TypeId} {i : TypeInfo} {z : Value} (h1 : P.info? e = some i) (h2 : i.zero = some z) (w : World) : (zeroValue e).run P w = .ok z w := by
  simp [zeroValue, typeInfo, h1, h2]
/-- clear(x[k:]) -/
theorem D_clear {t e e2 : TypeId} {sz bytes b k n c : Nat} {zs cs : List Value} {x : Operand} {F : Heap} (ho : o.op = .call { callee := .builtin .clear, args := #[x], argTypes := #[t] }) (hs : SI X.P t e sz bytes zs) (h1 : ∀ v ∈ zs, v.oneCell' = true)
    (hx : ev E x = some (.slice (some ⟨b, k, none⟩) n c)) (hp : Pull ⟨some b, cl cs e2⟩ H F) (hk : n = 0 ∨ k + n * sz ≤ cs.length) :
    Does X o E H (fun _ H' => ∃ ns : List Value, ns.length = n * sz ∧ H' = ⟨some b, cl (putAt cs k ns) e2⟩ :: F) := by
  intro a w ha hw next Q kk
  obtain ⟨g1, i, z, g2, g3, g4, g5, g6, g7, g8⟩ := hs
  refine ⟨about_true, ?_⟩
  rw [semAt_of (by rw [ho]; intro c e; cases e)]
  have hb : w.heap[b]? = some (cl cs e2) := by
    have := (hw.perm hp.perm).hok.ok _ (List.mem_cons_self ..)
    simpa [Ent.ok] using this
  cases n with
  | zero =>
    have hrun : (execOp a.eval o).run X.P w = .ok (.value (.tuple #[])) w := by
      simp [execOp, ho, resolve, ha.eval hx, invoke, builtin, Builtin.clear_, run_underlying g1]
    rw [hrun]
    exact kk _ _ _ ⟨[], by simp, rfl⟩ (by rw [putAt_nil]; exact hw.perm hp.perm)
  | succ n =>
    have hk' : k + (n + 1) * sz ≤ cs.length := by
      rcases hk with e | e
      · cases e
      · exact e
    have hlen : (Builtin.zeroCells zs.toArray (n + 1)).toList.length = (n + 1) * sz := by rw [Array.length_toList, size_zeroCells, List.size_toArray, g7]
    have hall : ∀ v ∈ (Builtin.zeroCells zs.toArray (n + 1)).toList, v.oneCell' = true := fun v hv => by
      simp only [Builtin.zeroCells, Array.toList_map, List.mem_map] at hv
      obtain ⟨j, _, rfl⟩ := hv
      have hj : j % zs.toArray.size < zs.toArray.size := Nat.mod_lt _ (by rw [List.size_toArray, g7]; exact g8)
      rw [getElem!_pos zs.toArray _ hj]
      exact h1 _ (by simp)
    obtain ⟨w', s1, s2, s3, s4, s5, s6, s7, s8⟩ := run_storeCells_at (P := X.P) (b := b) (e := e2) k (Builtin.zeroCells zs.toArray (n + 1)).toList 0 cs w hb (by rw [hlen]; omega) hall
    have hrun : (execOp a.eval o).run X.P w = .ok (.value (.tuple #[])) w' := by
      simp [execOp, ho, resolve, ha.eval hx, invoke, builtin, Builtin.clear_, run_underlying g1, run_zeroValue g2 g3, g6, s1]
    rw [hrun]
    exact kk _ _ _ ⟨_, hlen, rfl⟩ (by rw [Nat.add_zero] at s3; exact hw.turn hp s2 s3 s4 s5 s6 s7 s8)
end
theorem WZ_set {X : Ctx} {ops : Array Oper} {p : Post} {Hq : Heap} {E : Env} {H : Heap} {r es : List (Nat × Bool)} {s : Nat} {v v' : Value} (h : gtE E s = some v') (he : v' = v) (k : WZ X ops p Hq r es ((s, v) :: E) H) : WZ X ops p Hq r es E H := by
  subst he
  intro a w ha hw
  refine k a w ⟨ha.size, ha.defers, fun t v ht => ?_⟩ hw
  rw [get_cons] at ht
  split at ht
  · rename_i e; subst e; cases ht; exact ha.env _ _ h
  · exact ha.env _ _ ht
end Go.Proofs.Yteofigbgdbpjgaa
end
section
set_option linter.unusedVariables false
set_option maxRecDepth 20000
set_option maxHeartbeats 1000000
namespace Go.Proofs.Yteofigbgdbpjgaa
theorem evcl_none {k c : Nat} {pre tl : List Value} {E : List Pv} (h : OwnS none k E.length c 3 pre (E.flatMap encV) tl) : Spec Try.prog 67 [sVal none k E.length c] [⟨none, cl (pre ++ (E.flatMap encV ++ tl)) 44⟩] (fun r H' => r = .slice none 0 0 ∧ H' = [⟨none, cl (pre ++ (E.flatMap encV ++ tl)) 44⟩]) := by
  refine Spec.of (E := [(0, sVal none k E.length c)]) Try.func67 rfl (by kernel_rfl) Try.ntmps67 rfl rfl (fun w => ?_)
  refine WC_seq ?_
  refine WC_region ?_
  refine WL_val rfl rfl rfl (R_assign rfl rfl) ?_
  refine WL_nil ?_
  refine WQ_code ?_
  refine WC_seq ?_
  refine WC_seq ?_
  refine WC_region ?_
  refine WL_val rfl rfl rfl (R_move rfl rfl) ?_
  refine WL_val rfl rfl rfl (R_sliceEqNil rfl Try.underlying56 rfl) ?_
  refine WL_nil ?_
  refine WQ_code ?_
  refine WC_T rfl ?_
  refine WC_seq ?_
  refine WC_region ?_
  refine WL_val rfl rfl rfl (R_assign rfl rfl) ?_
  refine WL_nil ?_
  refine WQ_code ?_
  refine WC_ret ?_
  refine WQ_ret rfl rfl (.cons (.tmp rfl) .nil) rfl (by
      exact ⟨rfl, rfl⟩) (pqZ)
theorem evcl_some {b k c : Nat} {pre tl : List Value} {E : List Pv} (h : OwnS (some b) k E.length c 3 pre (E.flatMap encV) tl) (hl : E.length ≤ 1000000) : Spec Try.prog 67 [sVal (some b) k E.length c] [⟨some b, cl (pre ++ (E.flatMap encV ++ tl)) 44⟩] (fun r H' => ∃ o2 c2 tl2, r = slV o2 E.length c2 ∧ Own o2 E.length c2 3 (E.flatMap encV) tl2 ∧ H' = [⟨o2, cl (E.flatMap encV ++ tl2) 44⟩, ⟨some b, cl (pre ++ (E.flatMap encV ++ tl)) 44⟩]) := by
  refine Spec.of (E := [(0, sVal (some b) k E.length c)]) Try.func67 rfl (by kernel_rfl) Try.ntmps67 rfl rfl (fun w => ?_)
  refine WC_seq ?_
  refine WC_region ?_
  refine WL_val rfl rfl rfl (R_assign rfl rfl) ?_
  refine WL_nil ?_
  refine WQ_code ?_
  refine WC_seq ?_
  refine WC_seq ?_
  refine WC_region ?_
  refine WL_val rfl rfl rfl (R_move rfl rfl) ?_
  refine WL_val rfl rfl rfl (R_sliceEqNil rfl Try.underlying56 rfl) ?_
  refine WL_nil ?_
  refine WQ_code ?_
  refine WC_F rfl ?_
  refine WC_skip ?_
  refine WQ_code ?_
  refine WC_seq ?_
  refine WC_region ?_
  refine WL_do rfl rfl rfl (D_buildSlice rfl si56 rfl rfl rfl) ?_
  rintro _ _ ⟨b1, rfl, rfl⟩
  refine WL_val rfl rfl rfl (R_move rfl rfl) ?_
  refine WL_do rfl rfl rfl (D_append rfl si56 rfl ((⟨by simp, by simp, by simp, by simp, fun h => by cases h⟩ : Own (some b1) 0 0 3 [] [])) (plZ) rfl (mmZ) (h.atAll) (fm_length encV3 E) (encV_one E) (by omega) (by omega)) ?_
  rintro _ _ ⟨ob2, cap2, tl2, rfl, own2, rfl⟩
  rw [Nat.zero_add, List.nil_append] at own2
  refine WL_val rfl rfl rfl (R_assign rfl rfl) ?_
  refine WL_nil ?_
  refine WQ_code ?_
  refine WC_ret ?_
  refine WQ_ret rfl rfl (.cons (.tmp rfl) .nil) rfl (by
      exact ⟨ob2, cap2, tl2, by rw [Nat.zero_add]; rfl, own2, rfl⟩) (pqZ)
theorem evcl_ok {ob : Option Nat} {k c : Nat} {pre tl : List Value} {E : List Pv} (h : OwnS ob k E.length c 3 pre (E.flatMap encV) tl) (hl : E.length ≤ 1000000) : Spec Try.prog 67 [sVal ob k E.length c] [⟨ob, cl (pre ++ (E.flatMap encV ++ tl)) 44⟩] (fun r H' => ∃ o2 c2 tl2, r = slV o2 E.length c2 ∧ Own o2 E.length c2 3 (E.flatMap encV) tl2 ∧ H' = [⟨o2, cl (E.flatMap encV ++ tl2) 44⟩, ⟨ob, cl (pre ++ (E.flatMap encV ++ tl)) 44⟩]) := by
  cases ob with
  | some b => exact evcl_some h hl
  | none =>
    have hE := h.nil_of rfl
    subst hE
    exact Spec.noneP 44 ((evcl_none h).mono fun r H' ⟨h1, h2⟩ => ⟨⟨none, cl [] 44⟩, ⟨rfl, rfl⟩, none, 0, [], h1, Own.empty 3, by rw [h2]; rfl⟩)
theorem wmcl_ok (m : PM) : Spec Try.prog 66 [.map (some m.wm)] [poW m] (fun x H' => ∃ m2, x = .map (some m2) ∧ H' = [⟨some m2, .map m.wes m.wmc⟩, poW m]) := by
  refine Spec.of (E := [(0, .map (some m.wm))]) Try.func66 rfl (by kernel_rfl) Try.ntmps66 rfl rfl (fun w => ?_)
  refine WC_seq ?_
  refine WC_region ?_
  refine WL_val rfl rfl rfl (R_assign rfl rfl) ?_
  refine WL_nil ?_
  refine WQ_code ?_
  refine WC_seq ?_
  refine WC_seq ?_
  refine WC_region ?_
  refine WL_val rfl rfl rfl (R_move rfl rfl) ?_
  refine WL_val rfl rfl rfl (R_mapEqNil rfl Try.underlying69 rfl) ?_
  refine WL_set (s := 4) (v := .bool false) rfl (by rfl) ?_
  refine WL_nil ?_
  refine WQ_code ?_
  refine WC_F rfl ?_
  refine WC_skip ?_
  refine WQ_code ?_
  refine WC_seq ?_
  refine WC_region ?_
  refine WL_val rfl rfl rfl (R_move rfl rfl) ?_
  refine WL_val rfl rfl rfl (R_mkIface rfl Try.underlying69 (by intro ms e; cases e) rfl) ?_
  refine WL_do rfl rfl rfl (D_mapsClone Try.func88 ext_clone_name rfl ext_clone_next ext_clone rfl rfl (mmZ)) ?_
  rintro _ _ ⟨m2, rfl, rfl⟩
  refine WL_val rfl rfl rfl (R_assert rfl Try.underlying69 (by intro ms e; cases e) rfl) ?_
  refine WL_val rfl rfl rfl (R_assign rfl rfl) ?_
  refine WL_nil ?_
  refine WQ_code ?_
  refine WC_ret ?_
  refine WQ_ret rfl rfl (.cons (.tmp rfl) .nil) rfl (by
      exact ⟨m2, rfl, rfl⟩) (pqZ)
theorem pcopy_ok {m : PM} {s : PS} (h : PIs m s) (hE : s.E.length ≤ 1000000) : Spec Try.prog 24 [ptrP m.p] (poH m s) (fun r H' => ∃ m2, r = ptrP m2.p ∧ H' = poH m2 s ++ poH m s ∧ PIs m2 s) := by
  refine Spec.of (E := [(0, ptrP m.p)]) Try.func24 rfl (by kernel_rfl) Try.ntmps24 rfl rfl (fun w => ?_)
  refine WC_seq ?_
  refine WC_region ?_
  refine WL_val rfl rfl rfl (R_assign rfl rfl) ?_
  refine WL_nil ?_
  refine WQ_code ?_
  refine WC_seq ?_
  refine WC_seq ?_
  refine WC_region ?_
  refine WL_val rfl rfl rfl (R_move rfl rfl) ?_
  refine WL_do rfl rfl rfl (D_call (pnone_ok h) rfl rfl rfl rfl (pqZ)) ?_
  rintro _ _ ⟨_, ⟨rfl, rfl⟩, rfl⟩
  refine WL_nil ?_
  refine WQ_code ?_
  refine WC_F rfl ?_
  refine WC_skip ?_
  refine WQ_code ?_
  refine WC_seq ?_
  refine WC_region ?_
  refine WL_val rfl rfl rfl (R_move rfl rfl) ?_
  refine WL_val rfl rfl rfl (R_nilCheck rfl rfl) ?_
  refine WL_val rfl rfl rfl (R_loadA (vs := pC m s) rfl ag71 rfl mmZ (pC_len h.cl) (at_all _)) ?_
  refine WL_do rfl rfl rfl (D_alloc rfl zv71) ?_
  rintro _ _ ⟨b1, rfl, rfl⟩
  refine WL_do0 rfl rfl (D_store (vs := pC m s) rfl Try.sizeOf71 rfl rfl rfl (pC_len h.cl) pC_one plZ (by show 0 + 199 ≤ _; simp)) ?_
  rintro _ _ rfl
  rw [putAt_all (show _ = (pC m s).length by rw [pC_len h.cl]; simp)]
  refine WL_nil ?_
  refine WQ_code ?_
  refine WC_seq ?_
  refine WC_drawR [⟨some b1, _⟩] [(0, true), (1, true), (2, true), (3, true), (5, true), (6, true), (7, true), (8, true), (10, true), (11, true), (12, true), (13, true), (4, false), (9, false), (14, false), (15, true), (16, false), (17, true), (18, false), (19, true), (20, false)] followsMixed rfl rfl (by kernel_rfl) (pqZ) ?_
  refine WM_val rfl rfl rfl rfl (R_move rfl rfl) ?_
  refine WM_val rfl rfl rfl rfl (R_nilCheck rfl rfl) ?_
  refine WM_val rfl rfl rfl rfl (R_fieldAddr rfl fa71_5 rfl) ?_
  refine WM_val rfl rfl rfl rfl (R_load (v := ptrQ m.q) rfl sc68 rfl (mmZ) (pc_t h.cl rfl 0)) ?_
  refine WM_val rfl rfl rfl rfl (R_move rfl rfl) ?_
  refine WM_val rfl rfl rfl rfl (R_nilCheck rfl rfl) ?_
  refine WM_val rfl rfl rfl rfl (R_fieldAddr rfl fa71_6 rfl) ?_
  refine WM_val rfl rfl rfl rfl (R_load (v := .map (some m.wm)) rfl sc69 rfl (mmZ) (pc_t h.cl rfl 1)) ?_
  refine WM_val rfl rfl rfl rfl (R_move rfl rfl) ?_
  refine WM_val rfl rfl rfl rfl (R_nilCheck rfl rfl) ?_
  refine WM_val rfl rfl rfl rfl (R_fieldAddr rfl fa71_7 rfl) ?_
  refine WM_val rfl rfl rfl rfl (R_load (v := sVal m.eb m.ek s.E.length m.ec) rfl sc56 rfl (mmZ) (pc_t h.cl rfl 2)) ?_
  refine WM_do rfl rfl rfl rfl (D_call (qcopy_ok m.q m.qm (fq s.Q) s.n m.qes m.qmc) rfl rfl rfl rfl (pqZ)) ?_
  rintro _ _ ⟨_, ⟨p2, m2, rfl, rfl⟩, rfl⟩
  refine ⟨⟨_, pqZ⟩, ?_⟩
  refine WM_do rfl rfl rfl rfl (D_call (wmcl_ok m) rfl rfl rfl rfl (pqZ)) ?_
  rintro _ _ ⟨_, ⟨w2, rfl, rfl⟩, rfl⟩
  refine ⟨⟨_, pqZ⟩, ?_⟩
  refine WM_do rfl rfl rfl rfl (D_call (evcl_ok h.eO hE) rfl rfl rfl rfl (pqZ)) ?_
  rintro _ _ ⟨_, ⟨o2, c2, tl2, rfl, own2, rfl⟩, rfl⟩
  refine ⟨⟨_, pqZ⟩, ?_⟩
  refine WM_val rfl rfl rfl rfl (R_fieldAddr rfl fa71_5 rfl) ?_
  refine WM_do0 rfl rfl rfl (D_store (vs := [_]) rfl Try.sizeOf68 rfl rfl rfl rfl rfl (plZ) (by exact pc_roomT h.cl rfl (j := 0) (by show 0 < 3; decide))) ?_
  rintro _ _ rfl
  refine ⟨⟨_, pqZ⟩, ?_⟩
  rw [show putAt (pC m s) _ _ = _ from pc_putT h.cl (A := pcH s) rfl 0 _]
  refine WM_val rfl rfl rfl rfl (R_fieldAddr rfl fa71_6 rfl) ?_
  refine WM_do0 rfl rfl rfl (D_store (vs := [_]) rfl Try.sizeOf69 rfl rfl rfl rfl rfl (plZ) (by exact pc_roomT h.cl rfl (j := 1) (by show 1 < 3; decide))) ?_
  rintro _ _ rfl
  refine ⟨⟨_, pqZ⟩, ?_⟩
  rw [pc_putT h.cl (A := pcH s) rfl 1 _]
  refine WM_val rfl rfl rfl rfl (R_fieldAddr rfl fa71_7 rfl) ?_
  refine WM_do0 rfl rfl rfl (D_store (vs := [_]) rfl Try.sizeOf56 rfl rfl rfl rfl rfl (plZ) (by exact pc_roomT h.cl rfl (j := 2) (by show 2 < 3; decide))) ?_
  rintro _ _ rfl
  refine ⟨⟨_, pqZ⟩, ?_⟩
  rw [pc_putT h.cl (A := pcH s) rfl 2 _]
  refine WM_nil ?_
  refine WQ_code ?_
  refine WC_seq ?_
  refine WC_region ?_
  refine WL_val rfl rfl rfl (R_assign rfl rfl) ?_
  refine WL_nil ?_
  refine WQ_code ?_
  refine WC_ret ?_
  refine WQ_ret rfl rfl (.cons (.tmp rfl) .nil) rfl (by
      exact ⟨⟨b1, p2, m2, m.qes, m.qmc, w2, m.wes, m.wmc, o2, 0, c2, [], tl2⟩, rfl, rfl, ⟨h.cl, h.qk, h.qM, h.wM, OwnS.of own2, h.who, h.op, h.most, h.since, h.now, h.keep, h.st⟩⟩) (pqZ)
theorem PIs.canc {m : PM} {s : PS} (h : PIs m s) {now : Nat} (who : Int) (hm : s.may (decide (0 ≤ who ∧ who ≤ 1000)) now = 0) (hb : now ≤ 18446744073709551615) : PIs m (s.at_ now) := by
  obtain ⟨_, h2, h3⟩ := may_zero hm
  exact h.at_ h2 (by omega)
theorem pcancel_ok {m : PM} {s : PS} (h : PIs m s) (hE : s.E.length ≤ 10000) (who : Int) (now : Nat) (hb : now ≤ 18446744073709551615) : Spec Try.prog 17 [ptrP m.p, .int .i64 who, .int .u64 (now : Int)] (poH m s) (fun r H' => ∃ m', r = .int .i64 (s.canE who now) ∧ H' = poH m' (s.cancel who now) ∧ m'.p = m.p ∧ PIs m' (s.cancel who now)) := by
  refine Spec.of (E := [(0, ptrP m.p), (1, .int .i64 who), (2, .int .u64 (now : Int))]) Try.func17 rfl (by kernel_rfl) Try.ntmps17 rfl rfl (fun w => ?_)
  refine WC_seq ?_
  refine WC_region ?_
  refine WL_val rfl rfl rfl (R_assign rfl rfl) ?_
  refine WL_nil ?_
  refine WQ_code ?_
  refine WC_seq ?_
  refine WC_seq ?_
  refine WC_region ?_
  refine WL_val rfl rfl rfl (R_move rfl rfl) ?_
  refine WL_val rfl rfl rfl (R_move rfl rfl) ?_
  refine WL_val rfl rfl rfl (R_geq rfl rfl rfl) ?_
  refine WL_val rfl rfl rfl (R_move rfl rfl) ?_
  refine WL_splitD (s := 14) rfl (fun c1 => ?_) (fun c1 => ?_)
  · have hg := c1
    refine WL_val rfl rfl rfl (R_move rfl rfl) ?_
    refine WL_val rfl rfl rfl (R_leq rfl rfl rfl) ?_
    refine WL_val rfl rfl rfl (R_pickT rfl rfl rfl) ?_
    refine WL_val rfl rfl rfl (R_move rfl rfl) ?_
    refine WL_set (s := 17) (v := .bool (decide (0 ≤ who ∧ who ≤ 1000))) rfl (by first | exact congrArg Value.bool (decide_eq_decide.2 (by omega)) | exact congrArg Value.bool (decide_eq_false (by omega)).symm) ?_
    refine WL_do rfl rfl rfl (D_call (pmay_ok h (decide (0 ≤ who ∧ who ≤ 1000)) now) rfl rfl rfl rfl (pqZ)) ?_
    rintro _ _ ⟨_, ⟨rfl, rfl⟩, rfl⟩
    refine WL_val rfl rfl rfl (R_assign rfl rfl) ?_
    refine WL_nil ?_
    refine WQ_code ?_
    refine WC_seq ?_
    refine WC_region ?_
    refine WL_val rfl rfl rfl (R_move rfl rfl) ?_
    refine WL_val rfl rfl rfl (R_neq rfl rfl rfl) ?_
    refine WL_nil ?_
    refine WQ_code ?_
    refine WC_dec rfl (fun c2 => ?_) (fun c2 => ?_)
    · have hm := c2
      refine WC_seq ?_
      refine WC_region ?_
      refine WL_val rfl rfl rfl (R_move rfl rfl) ?_
      refine WL_val rfl rfl rfl (R_assign rfl rfl) ?_
      refine WL_nil ?_
      refine WQ_code ?_
      refine WC_ret ?_
      refine WQ_ret rfl rfl (.cons (.tmp rfl) .nil) rfl (by
          exact ⟨m, congrArg (Value.int .i64) (canE_may hm).symm, by rw [cancel_no (by rw [canE_may hm]; exact hm)], rfl, by rw [cancel_no (by rw [canE_may hm]; exact hm)]; exact h⟩) (pqZ)
    · have hm : s.may (decide (0 ≤ who ∧ who ≤ 1000)) now = 0 := Decidable.byContradiction c2
      rcases waits_or s who with ⟨A, x, B, hQ, rfl⟩ | ⟨hw, hno⟩
      · refine WC_skip ?_
        refine WQ_code ?_
        refine WC_seq ?_
        refine WC_seq ?_
        refine WC_region ?_
        refine WL_val rfl rfl rfl (R_move rfl rfl) ?_
        refine WL_val rfl rfl rfl (R_nilCheck rfl rfl) ?_
        refine WL_val rfl rfl rfl (R_fieldAddr rfl fa71_6 rfl) ?_
        refine WL_val rfl rfl rfl (R_load (v := .map (some m.wm)) rfl sc69 rfl (mmZ) (pc_t h.cl rfl 1)) ?_
        refine WL_val rfl rfl rfl (R_move rfl rfl) ?_
        refine WL_val rfl rfl rfl (R_lookKT (k := x.who) (a := (x.t, x.dl)) rfl Try.underlying69 int_key rfl rfl mmZ h.wM (by rw [hQ]; exact List.mem_map_of_mem (List.mem_append_right _ (List.mem_cons_self ..)))) ?_
        refine WL_val rfl rfl rfl (R_move rfl rfl) ?_
        refine WL_val rfl rfl rfl (R_extract rfl rfl rfl) ?_
        refine WL_val rfl rfl rfl (R_extract rfl rfl rfl) ?_
        refine WL_set (s := 31) (v := .bool true) rfl (by rfl) ?_
        refine WL_do rfl rfl rfl (D_alloc rfl zv86) ?_
        rintro _ _ ⟨b1, rfl, rfl⟩
        refine WL_do0 rfl rfl (D_store (vs := [_, _]) rfl Try.sizeOf86 rfl rfl rfl rfl rfl (plZ) (by exact Nat.le_of_ble_eq_true rfl)) ?_
        rintro _ _ rfl
        refine WL_val rfl rfl rfl (R_assign rfl rfl) ?_
        refine WL_nil ?_
        refine WQ_code ?_
        refine WC_seq ?_
        refine WC_region ?_
        refine WL_val rfl rfl rfl (R_move rfl rfl) ?_
        refine WL_val rfl rfl rfl (R_not rfl rfl) ?_
        refine WL_nil ?_
        refine WQ_code ?_
        refine WC_F rfl ?_
        refine WC_skip ?_
        refine WQ_code ?_
        refine WC_seq ?_
        refine WC_seq ?_
        refine WC_region ?_
        refine WL_val rfl rfl rfl (R_move rfl rfl) ?_
        refine WL_do rfl rfl rfl (D_call (pfull_ok h hE) rfl rfl rfl rfl (pqZ)) ?_
        rintro _ _ ⟨_, ⟨rfl, rfl⟩, rfl⟩
        refine WL_val rfl rfl rfl (R_assign rfl rfl) ?_
        refine WL_nil ?_
        refine WQ_code ?_
        refine WC_seq ?_
        refine WC_region ?_
        refine WL_val rfl rfl rfl (R_move rfl rfl) ?_
        refine WL_val rfl rfl rfl (R_neq rfl rfl rfl) ?_
        refine WL_nil ?_
        refine WQ_code ?_
        refine WC_dF rfl (by simp) ?_
        refine WC_skip ?_
        refine WQ_code ?_
        refine WC_seq ?_
        refine WC_region ?_
        refine WL_val rfl rfl rfl (R_move rfl rfl) ?_
        refine WL_val rfl rfl rfl (R_move rfl rfl) ?_
        refine WL_val rfl rfl rfl (R_nilCheck rfl rfl) ?_
        refine WL_val rfl rfl rfl (R_fieldAddr rfl fa71_3 rfl) ?_
        refine WL_do0 rfl rfl (D_store (vs := [_]) rfl Try.sizeOf28 rfl rfl rfl rfl rfl (plZ) (by exact pc_nowr m s)) ?_
        rintro _ _ rfl
        rw [pc_now]
        have h0 := h.canc _ hm hb
        refine WL_nil ?_
        refine WQ_code ?_
        refine WC_seq ?_
        refine WC_region ?_
        refine WL_val rfl rfl rfl (R_move rfl rfl) ?_
        refine WL_val rfl rfl rfl (R_move rfl rfl) ?_
        refine WL_do rfl rfl rfl (D_call (pleave_ok h0 hQ) rfl rfl rfl rfl (pqZ)) ?_
        rintro _ _ ⟨_, ⟨m1, rfl, rfl, hp1, h1⟩, rfl⟩
        refine WL_nil ?_
        refine WQ_code ?_
        refine WC_seq ?_
        refine WC_region ?_
        refine WL_val rfl rfl rfl (R_assign rfl rfl) ?_
        refine WL_nil ?_
        refine WQ_code ?_
        refine WC_ret ?_
        refine WQ_ret rfl rfl (.cons (.tmp rfl) .nil) rfl (by
            exact ⟨m1, congrArg (Value.int .i64) (canE_ok hm (waits_in hQ)).symm, by rw [cancel_ok (canE_ok hm (waits_in hQ))], hp1, by rw [cancel_ok (canE_ok hm (waits_in hQ))]; exact h1⟩) (pqZ)
      · refine WC_skip ?_
        refine WQ_code ?_
        refine WC_seq ?_
        refine WC_seq ?_
        refine WC_region ?_
        refine WL_val rfl rfl rfl (R_move rfl rfl) ?_
        refine WL_val rfl rfl rfl (R_nilCheck rfl rfl) ?_
        refine WL_val rfl rfl rfl (R_fieldAddr rfl fa71_6 rfl) ?_
        refine WL_val rfl rfl rfl (R_load (v := .map (some m.wm)) rfl sc69 rfl (mmZ) (pc_t h.cl rfl 1)) ?_
        refine WL_val rfl rfl rfl (R_move rfl rfl) ?_
        refine WL_val rfl rfl rfl (R_lookKF (k := who) (zv := .agg #[.int .u64 0, .int .u64 0]) rfl Try.underlying69 int_key rfl rfl mmZ h.wM hno (fun w => Try.zeroValue86 w)) ?_
        refine WL_val rfl rfl rfl (R_move rfl rfl) ?_
        refine WL_val rfl rfl rfl (R_extract rfl rfl rfl) ?_
        refine WL_val rfl rfl rfl (R_extract rfl rfl rfl) ?_
        refine WL_set (s := 31) (v := .bool false) rfl (by rfl) ?_
        refine WL_do rfl rfl rfl (D_alloc rfl zv86) ?_
        rintro _ _ ⟨b2, rfl, rfl⟩
        refine WL_do0 rfl rfl (D_store (vs := [_, _]) rfl Try.sizeOf86 rfl rfl rfl rfl rfl (plZ) (by exact Nat.le_of_ble_eq_true rfl)) ?_
        rintro _ _ rfl
        refine WL_val rfl rfl rfl (R_assign rfl rfl) ?_
        refine WL_nil ?_
        refine WQ_code ?_
        refine WC_seq ?_
        refine WC_region ?_
        refine WL_val rfl rfl rfl (R_move rfl rfl) ?_
        refine WL_val rfl rfl rfl (R_not rfl rfl) ?_
        refine WL_nil ?_
        refine WQ_code ?_
        refine WC_T rfl ?_
        refine WC_seq ?_
        refine WC_region ?_
        refine WL_val rfl rfl rfl (R_assign rfl rfl) ?_
        refine WL_nil ?_
        refine WQ_code ?_
        refine WC_ret ?_
        refine WQ_ret rfl rfl (.cons (.tmp rfl) .nil) rfl (by
            exact ⟨m, congrArg (Value.int .i64) (canE_no hm hw).symm, by rw [cancel_no (by rw [canE_no hm hw]; decide)], rfl, by rw [cancel_no (by rw [canE_no hm hw]; decide)]; exact h⟩) (pqZ)
  · have hg := c1
    refine WL_skip rfl rfl rfl ?_
    refine WL_skip rfl rfl rfl ?_
    refine WL_val rfl rfl rfl (R_pickF rfl rfl rfl) ?_
    refine WL_val rfl rfl rfl (R_move rfl rfl) ?_
    refine WL_set (s := 17) (v := .bool (decide (0 ≤ who ∧ who ≤ 1000))) rfl (by first | exact congrArg Value.bool (decide_eq_decide.2 (by omega)) | exact congrArg Value.bool (decide_eq_false (by omega)).symm) ?_
    refine WL_do rfl rfl rfl (D_call (pmay_ok h (decide (0 ≤ who ∧ who ≤ 1000)) now) rfl rfl rfl rfl (pqZ)) ?_
    rintro _ _ ⟨_, ⟨rfl, rfl⟩, rfl⟩
    refine WL_val rfl rfl rfl (R_assign rfl rfl) ?_
    refine WL_nil ?_
    refine WQ_code ?_
    refine WC_seq ?_
    refine WC_region ?_
    refine WL_val rfl rfl rfl (R_move rfl rfl) ?_
    refine WL_val rfl rfl rfl (R_neq rfl rfl rfl) ?_
    refine WL_nil ?_
    refine WQ_code ?_
    refine WC_dec rfl (fun c3 => ?_) (fun c3 => ?_)
    · have hm := c3
      refine WC_seq ?_
      refine WC_region ?_
      refine WL_val rfl rfl rfl (R_move rfl rfl) ?_
      refine WL_val rfl rfl rfl (R_assign rfl rfl) ?_
      refine WL_nil ?_
      refine WQ_code ?_
      refine WC_ret ?_
      refine WQ_ret rfl rfl (.cons (.tmp rfl) .nil) rfl (by
          exact ⟨m, congrArg (Value.int .i64) (canE_may hm).symm, by rw [cancel_no (by rw [canE_may hm]; exact hm)], rfl, by rw [cancel_no (by rw [canE_may hm]; exact hm)]; exact h⟩) (pqZ)
    · have hm : s.may (decide (0 ≤ who ∧ who ≤ 1000)) now = 0 := Decidable.byContradiction c3
      rcases waits_or s who with ⟨A, x, B, hQ, rfl⟩ | ⟨hw, hno⟩
      · refine WC_skip ?_
        refine WQ_code ?_
        refine WC_seq ?_
        refine WC_seq ?_
        refine WC_region ?_
        refine WL_val rfl rfl rfl (R_move rfl rfl) ?_
        refine WL_val rfl rfl rfl (R_nilCheck rfl rfl) ?_
        refine WL_val rfl rfl rfl (R_fieldAddr rfl fa71_6 rfl) ?_
        refine WL_val rfl rfl rfl (R_load (v := .map (some m.wm)) rfl sc69 rfl (mmZ) (pc_t h.cl rfl 1)) ?_
        refine WL_val rfl rfl rfl (R_move rfl rfl) ?_
        refine WL_val rfl rfl rfl (R_lookKT (k := x.who) (a := (x.t, x.dl)) rfl Try.underlying69 int_key rfl rfl mmZ h.wM (by rw [hQ]; exact List.mem_map_of_mem (List.mem_append_right _ (List.mem_cons_self ..)))) ?_
        refine WL_val rfl rfl rfl (R_move rfl rfl) ?_
        refine WL_val rfl rfl rfl (R_extract rfl rfl rfl) ?_
        refine WL_val rfl rfl rfl (R_extract rfl rfl rfl) ?_
        refine WL_set (s := 31) (v := .bool true) rfl (by rfl) ?_
        refine WL_do rfl rfl rfl (D_alloc rfl zv86) ?_
        rintro _ _ ⟨b3, rfl, rfl⟩
        refine WL_do0 rfl rfl (D_store (vs := [_, _]) rfl Try.sizeOf86 rfl rfl rfl rfl rfl (plZ) (by exact Nat.le_of_ble_eq_true rfl)) ?_
        rintro _ _ rfl
        refine WL_val rfl rfl rfl (R_assign rfl rfl) ?_
        refine WL_nil ?_
        refine WQ_code ?_
        refine WC_seq ?_
        refine WC_region ?_
        refine WL_val rfl rfl rfl (R_move rfl rfl) ?_
        refine WL_val rfl rfl rfl (R_not rfl rfl) ?_
        refine WL_nil ?_
        refine WQ_code ?_
        refine WC_F rfl ?_
        refine WC_skip ?_
        refine WQ_code ?_
        refine WC_seq ?_
        refine WC_seq ?_
        refine WC_region ?_
        refine WL_val rfl rfl rfl (R_move rfl rfl) ?_
        refine WL_do rfl rfl rfl (D_call (pfull_ok h hE) rfl rfl rfl rfl (pqZ)) ?_
        rintro _ _ ⟨_, ⟨rfl, rfl⟩, rfl⟩
        refine WL_val rfl rfl rfl (R_assign rfl rfl) ?_
        refine WL_nil ?_
        refine WQ_code ?_
        refine WC_seq ?_
        refine WC_region ?_
        refine WL_val rfl rfl rfl (R_move rfl rfl) ?_
        refine WL_val rfl rfl rfl (R_neq rfl rfl rfl) ?_
        refine WL_nil ?_
        refine WQ_code ?_
        refine WC_dF rfl (by simp) ?_
        refine WC_skip ?_
        refine WQ_code ?_
        refine WC_seq ?_
        refine WC_region ?_
        refine WL_val rfl rfl rfl (R_move rfl rfl) ?_
        refine WL_val rfl rfl rfl (R_move rfl rfl) ?_
        refine WL_val rfl rfl rfl (R_nilCheck rfl rfl) ?_
        refine WL_val rfl rfl rfl (R_fieldAddr rfl fa71_3 rfl) ?_
        refine WL_do0 rfl rfl (D_store (vs := [_]) rfl Try.sizeOf28 rfl rfl rfl rfl rfl (plZ) (by exact pc_nowr m s)) ?_
        rintro _ _ rfl
        rw [pc_now]
        have h0 := h.canc _ hm hb
        refine WL_nil ?_
        refine WQ_code ?_
        refine WC_seq ?_
        refine WC_region ?_
        refine WL_val rfl rfl rfl (R_move rfl rfl) ?_
        refine WL_val rfl rfl rfl (R_move rfl rfl) ?_
        refine WL_do rfl rfl rfl (D_call (pleave_ok h0 hQ) rfl rfl rfl rfl (pqZ)) ?_
        rintro _ _ ⟨_, ⟨m1, rfl, rfl, hp1, h1⟩, rfl⟩
        refine WL_nil ?_
        refine WQ_code ?_
        refine WC_seq ?_
        refine WC_region ?_
        refine WL_val rfl rfl rfl (R_assign rfl rfl) ?_
        refine WL_nil ?_
        refine WQ_code ?_
        refine WC_ret ?_
        refine WQ_ret rfl rfl (.cons (.tmp rfl) .nil) rfl (by
            exact ⟨m1, congrArg (Value.int .i64) (canE_ok hm (waits_in hQ)).symm, by rw [cancel_ok (canE_ok hm (waits_in hQ))], hp1, by rw [cancel_ok (canE_ok hm (waits_in hQ))]; exact h1⟩) (pqZ)
      · refine WC_skip ?_
        refine WQ_code ?_
        refine WC_seq ?_
        refine WC_seq ?_
        refine WC_region ?_
        refine WL_val rfl rfl rfl (R_move rfl rfl) ?_
        refine WL_val rfl rfl rfl (R_nilCheck rfl rfl) ?_
        refine WL_val rfl rfl rfl (R_fieldAddr rfl fa71_6 rfl) ?_
        refine WL_val rfl rfl rfl (R_load (v := .map (some m.wm)) rfl sc69 rfl (mmZ) (pc_t h.cl rfl 1)) ?_
        refine WL_val rfl rfl rfl (R_move rfl rfl) ?_
        refine WL_val rfl rfl rfl (R_lookKF (k := who) (zv := .agg #[.int .u64 0, .int .u64 0]) rfl Try.underlying69 int_key rfl rfl mmZ h.wM hno (fun w => Try.zeroValue86 w)) ?_
        refine WL_val rfl rfl rfl (R_move rfl rfl) ?_
        refine WL_val rfl rfl rfl (R_extract rfl rfl rfl) ?_
        refine WL_val rfl rfl rfl (R_extract rfl rfl rfl) ?_
        refine WL_set (s := 31) (v := .bool false) rfl (by rfl) ?_
        refine WL_do rfl rfl rfl (D_alloc rfl zv86) ?_
        rintro _ _ ⟨b4, rfl, rfl⟩
        refine WL_do0 rfl rfl (D_store (vs := [_, _]) rfl Try.sizeOf86 rfl rfl rfl rfl rfl (plZ) (by exact Nat.le_of_ble_eq_true rfl)) ?_
        rintro _ _ rfl
        refine WL_val rfl rfl rfl (R_assign rfl rfl) ?_
        refine WL_nil ?_
        refine WQ_code ?_
        refine WC_seq ?_
        refine WC_region ?_
        refine WL_val rfl rfl rfl (R_move rfl rfl) ?_
        refine WL_val rfl rfl rfl (R_not rfl rfl) ?_
        refine WL_nil ?_
        refine WQ_code ?_
        refine WC_T rfl ?_
        refine WC_seq ?_
        refine WC_region ?_
        refine WL_val rfl rfl rfl (R_assign rfl rfl) ?_
        refine WL_nil ?_
        refine WQ_code ?_
        refine WC_ret ?_
        refine WQ_ret rfl rfl (.cons (.tmp rfl) .nil) rfl (by
            exact ⟨m, congrArg (Value.int .i64) (canE_no hm hw).symm, by rw [cancel_no (by rw [canE_no hm hw]; decide)], rfl, by rw [cancel_no (by rw [canE_no hm hw]; decide)]; exact h⟩) (pqZ)
end Go.Proofs.Yteofigbgdbpjgaa
end
section
set_option linter.unusedVariables false
set_option maxRecDepth 20000
set_option maxHeartbeats 1000000
namespace Go.Proofs.Yteofigbgdbpjgaa
theorem own_litP (b : Nat) (l : List Int) (h : l.length ≤ 1000000) : Own (some b) l.length l.length 1 (ivs l) [] :=
  ⟨by rw [ivs_len, Nat.mul_one], by rw [ivs_len]; simp, Nat.le_refl _, by omega, fun e => by cases e⟩
theorem pget1_ok (x : Cn) (b2 : Nat) (who : Int) : Spec Try.prog 35 [.agg (encC x).toArray, .pointer (some ⟨b2, 0, none⟩)] [⟨some b2, cl [.int .i64 who] 3⟩] (fun r H' => r = .bool (decide (x.st = 1 ∧ x.who = who)) ∧ H' = [⟨some b2, cl [.int .i64 who] 3⟩]) := by
  refine Spec.of (E := [(0, .agg (encC x).toArray), (1, .pointer (some ⟨b2, 0, none⟩))]) Try.func35 rfl (by kernel_rfl) Try.ntmps35 rfl rfl (fun w => ?_)
  refine WC_seq ?_
  refine WC_region ?_
  refine WL_do rfl rfl rfl (D_box (cs := [_, _, _]) rfl rfl rfl) ?_
  rintro _ _ ⟨b1, rfl, rfl⟩
  refine WL_val rfl rfl rfl (R_assign rfl rfl) ?_
  refine WL_nil ?_
  refine WQ_code ?_
  refine WC_seq ?_
  refine WC_region ?_
  refine WL_val rfl rfl rfl (R_fieldAddr rfl fa66_0 rfl) ?_
  refine WL_val rfl rfl rfl (R_load rfl sc64 rfl (mmZ) rfl) ?_
  refine WL_val rfl rfl rfl (R_eql rfl rfl rfl) ?_
  refine WL_val rfl rfl rfl (R_move rfl rfl) ?_
  refine WL_splitD (s := 7) rfl (fun c1 => ?_) (fun c1 => ?_)
  · have hg := c1
    refine WL_val rfl rfl rfl (R_fieldAddr rfl fa66_1 rfl) ?_
    refine WL_val rfl rfl rfl (R_load rfl sc3 rfl (mmZ) rfl) ?_
    refine WL_val rfl rfl rfl (R_load rfl sc3 rfl (mmZ) rfl) ?_
    refine WL_val rfl rfl rfl (R_eql rfl rfl rfl) ?_
    refine WL_val rfl rfl rfl (R_pickT rfl rfl rfl) ?_
    refine WL_val rfl rfl rfl (R_assign rfl rfl) ?_
    refine WL_nil ?_
    refine WQ_code ?_
    refine WC_ret ?_
    refine WQ_ret rfl rfl (.cons (.tmp rfl) .nil) rfl (by
        first | exact ⟨congrArg Value.bool (decide_eq_decide.2 (by omega)), rfl⟩ | exact ⟨congrArg Value.bool (decide_eq_false (by omega)).symm, rfl⟩) (pqZ)
  · have hg := c1
    refine WL_skip rfl rfl rfl ?_
    refine WL_skip rfl rfl rfl ?_
    refine WL_skip rfl rfl rfl ?_
    refine WL_skip rfl rfl rfl ?_
    refine WL_val rfl rfl rfl (R_pickF rfl rfl rfl) ?_
    refine WL_val rfl rfl rfl (R_assign rfl rfl) ?_
    refine WL_nil ?_
    refine WQ_code ?_
    refine WC_ret ?_
    refine WQ_ret rfl rfl (.cons (.tmp rfl) .nil) rfl (by
        first | exact ⟨congrArg Value.bool (decide_eq_decide.2 (by omega)), rfl⟩ | exact ⟨congrArg Value.bool (decide_eq_false (by omega)).symm, rfl⟩) (pqZ)
theorem dials_next {C : List Cn} {k : Nat} {x : Cn} {who : Int} (hx : C[k]? = some x) (h : (C.take k).any (fun x => decide (x.st = 1 ∧ x.who = who)) = false) (hp : decide (x.st = 1 ∧ x.who = who) = false) : (C.take (k + 1)).any (fun x => decide (x.st = 1 ∧ x.who = who)) = false := by
  rw [take_next hx, List.any_append, h, Bool.false_or, List.any_cons, List.any_nil, Bool.or_false, hp]
theorem cidx_ok {m : PM} {s : PS} (h : PIs m s) (b2 : Nat) (who : Int) : Spec Try.prog 70 [.slice (some ⟨m.p, 4, none⟩) 64 64, .func (.func 35) #[] #[.pointer (some ⟨b2, 0, none⟩)]] [poP m s, ⟨some b2, cl [.int .i64 who] 3⟩] (fun r H' => ∃ v : Int, r = .int .i64 v ∧ (0 ≤ v ↔ s.dials who = true) ∧ H' = [poP m s, ⟨some b2, cl [.int .i64 who] 3⟩]) := by
  refine Spec.of (E := [(0, .slice (some ⟨m.p, 4, none⟩) 64 64), (1, .func (.func 35) #[] #[.pointer (some ⟨b2, 0, none⟩)])]) Try.func70 rfl (by kernel_rfl) Try.ntmps70 rfl rfl (fun w => ?_)
  refine WC_seq ?_
  refine WC_region ?_
  refine WL_val rfl rfl rfl (R_assign rfl rfl) ?_
  refine WL_nil ?_
  refine WQ_code ?_
  refine WC_seq ?_
  refine WC_seq ?_
  refine WC_region ?_
  refine WL_val rfl rfl rfl (R_move rfl rfl) ?_
  refine WL_val rfl rfl rfl (R_len rfl Try.underlying89 rfl) ?_
  refine WL_val rfl rfl rfl (R_move rfl rfl) ?_
  refine WL_nil ?_
  refine WQ_code ?_
  refine WC_block ?_
  refine WC_loopF (G := Nat) [4, 5, 8, 9, 10, 11, 12, 13, 14, 15, 16, 17, 18] (fun k => k ≤ 64 ∧ (s.C.take k).any (fun x => decide (x.st = 1 ∧ x.who = who)) = false) (fun k => [(8, .int .i64 (k : Int))]) (fun k => []) (fun k => 64 - k) (0) (⟨Nat.zero_le _, rfl⟩) leZ (pqZ) ?_
  rintro k ⟨hk, hz⟩
  refine WC_seq ?_
  refine WC_region ?_
  refine WL_val rfl rfl rfl (R_lss rfl rfl rfl) ?_
  refine WL_nil ?_
  refine WQ_code ?_
  refine WC_seq ?_
  refine WC_dec rfl (fun c1 => ?_) (fun c1 => ?_)
  · refine WC_skip ?_
    refine WQ_code ?_
    refine WC_seq ?_
    refine WC_block ?_
    refine WC_seq ?_
    refine WC_region ?_
    refine WL_val rfl rfl rfl (R_move rfl rfl) ?_
    refine WL_val rfl rfl rfl (R_assign rfl rfl) ?_
    refine WL_nil ?_
    refine WQ_code ?_
    refine WC_seq ?_
    refine WC_region ?_
    obtain ⟨x, hx⟩ := getE (T := s.C) (i := k) (by rw [h.cl]; omega)
    refine WL_val rfl rfl rfl (R_move rfl rfl) ?_
    refine WL_val rfl rfl rfl (R_move rfl rfl) ?_
    refine WL_val rfl rfl rfl (R_move rfl rfl) ?_
    refine WL_val rfl rfl rfl (R_indexAddrN rfl Try.underlying89 Try.sizeOf66 rfl rfl (by omega)) ?_
    refine WL_val rfl rfl rfl (R_loadA (vs := encC x) rfl ag66 rfl mmZ rfl (by have := pc_atC (A := pcH s) (T := pcT m s.E.length) rfl hx; exact this)) ?_
    refine WL_do rfl rfl rfl (D_call (pget1_ok x b2 who) rfl rfl rfl rfl (pqZ)) ?_
    rintro _ _ ⟨_, ⟨rfl, rfl⟩, rfl⟩
    refine WL_nil ?_
    refine WQ_code ?_
    refine WC_if rfl (fun c2 => ?_) (fun c2 => ?_)
    · have hc := c2
      refine WC_seq ?_
      refine WC_region ?_
      refine WL_val rfl rfl rfl (R_move rfl rfl) ?_
      refine WL_val rfl rfl rfl (R_assign rfl rfl) ?_
      refine WL_nil ?_
      refine WQ_code ?_
      refine WC_ret ?_
      refine WQ_ret rfl rfl (.cons (.tmp rfl) .nil) rfl (by
          first | exact ⟨_, rfl, ⟨fun _ => List.any_eq_true.2 ⟨x, List.mem_of_getElem? hx, hc⟩, fun _ => Int.natCast_nonneg _⟩, rfl⟩ | exact ⟨_, rfl, ⟨fun e => absurd e (by decide), fun e => by unfold PS.dials at e; rw [List.take_of_length_le (by rw [h.cl]; omega)] at hz; rw [hz] at e; cases e⟩, rfl⟩) (pqZ)
    · have hc := c2
      refine WC_skip ?_
      refine WQ_code ?_
      refine WC_region ?_
      refine WL_val rfl rfl rfl (R_add rfl rfl rfl (by omega)) ?_
      refine WL_val rfl rfl rfl (R_move rfl rfl) ?_
      refine WL_nil ?_
      refine WQ_nextF (k + 1) (⟨by omega, dials_next hx hz hc⟩) (by omega) leZ (psZ) rfl (pqZ)
  · have hkl : k = 64 := by omega
    refine WC_exit ?_
    refine WQ_code ?_
    refine WC_seq ?_
    refine WC_region ?_
    refine WL_val rfl rfl rfl (R_assign rfl rfl) ?_
    refine WL_nil ?_
    refine WQ_code ?_
    refine WC_ret ?_
    refine WQ_ret rfl rfl (.cons (.tmp rfl) .nil) rfl (by
        first | exact ⟨_, rfl, ⟨fun _ => List.any_eq_true.2 ⟨x, List.mem_of_getElem? hx, hc⟩, fun _ => Int.natCast_nonneg _⟩, rfl⟩ | exact ⟨_, rfl, ⟨fun e => absurd e (by decide), fun e => by unfold PS.dials at e; rw [List.take_of_length_le (by rw [h.cl]; omega)] at hz; rw [hz] at e; cases e⟩, rfl⟩) (pqZ)
theorem ccon_ok {m : PM} {s : PS} (h : PIs m s) (b2 : Nat) (who : Int) : Spec Try.prog 34 [.slice (some ⟨m.p, 4, none⟩) 64 64, .func (.func 35) #[] #[.pointer (some ⟨b2, 0, none⟩)]] [poP m s, ⟨some b2, cl [.int .i64 who] 3⟩] (fun r H' => r = .bool (s.dials who) ∧ H' = [poP m s, ⟨some b2, cl [.int .i64 who] 3⟩]) := by
  refine Spec.of (E := [(0, .slice (some ⟨m.p, 4, none⟩) 64 64), (1, .func (.func 35) #[] #[.pointer (some ⟨b2, 0, none⟩)])]) Try.func34 rfl (by kernel_rfl) Try.ntmps34 rfl rfl (fun w => ?_)
  refine WC_seq ?_
  refine WC_region ?_
  refine WL_val rfl rfl rfl (R_assign rfl rfl) ?_
  refine WL_nil ?_
  refine WQ_code ?_
  refine WC_seq ?_
  refine WC_region ?_
  refine WL_val rfl rfl rfl (R_move rfl rfl) ?_
  refine WL_val rfl rfl rfl (R_move rfl rfl) ?_
  refine WL_do rfl rfl rfl (D_call (cidx_ok h b2 who) rfl rfl rfl rfl (pqZ)) ?_
  rintro _ _ ⟨_, ⟨v, rfl, hv, rfl⟩, rfl⟩
  refine WL_val rfl rfl rfl (R_geq rfl rfl rfl) ?_
  refine WL_val rfl rfl rfl (R_assign rfl rfl) ?_
  refine WL_nil ?_
  refine WQ_code ?_
  refine WC_ret ?_
  refine WQ_ret rfl rfl (.cons (.tmp rfl) .nil) rfl (by
      exact ⟨congrArg Value.bool (by cases hd : s.dials who with | true => exact decide_eq_true (hv.2 hd) | false => exact decide_eq_false (fun e => by have := hv.1 e; rw [hd] at this; cases this)), rfl⟩) (pqZ)
theorem since_at {C : List Cn} {k : Nat} {x : Cn} (h : C[k]? = some x) : sinceI C (k : Int) = x.since := by unfold sinceI; rw [Int.toNat_natCast, h]
theorem pget2_ok {m : PM} {s : PS} (h : PIs m s) (b1 : Nat) (a b : Int) (ha : a ∈ allI 3 s.C) (hb : b ∈ allI 3 s.C) : Spec Try.prog 38 [.int .i64 a, .int .i64 b, .pointer (some ⟨b1, 0, none⟩)] [⟨some b1, cl [ptrP m.p] 23⟩, poP m s] (fun r H' => r = .int .i64 (idleC s.C a b) ∧ [⟨some b1, cl [ptrP m.p] 23⟩, poP m s] = H') := by
  obtain ⟨i, x, rfl, hx, _⟩ := allI_mem ha
  obtain ⟨j, y, rfl, hy, _⟩ := allI_mem hb
  have hi := (List.getElem?_eq_some_iff.1 hx).1
  have hj := (List.getElem?_eq_some_iff.1 hy).1
  rw [h.cl] at hi hj
  refine Spec.of (E := [(0, .int .i64 (i : Int)), (1, .int .i64 (j : Int)), (2, .pointer (some ⟨b1, 0, none⟩))]) Try.func38 rfl (by kernel_rfl) Try.ntmps38 rfl rfl (fun w => ?_)
  refine WC_seq ?_
  refine WC_region ?_
  refine WL_val rfl rfl rfl (R_assign rfl rfl) ?_
  refine WL_nil ?_
  refine WQ_code ?_
  refine WC_seq ?_
  refine WC_draw _ [(0, true), (1, true), (2, true), (3, true), (4, true), (5, true), (6, true), (7, true), (8, true), (9, true), (10, true), (11, true), (12, true), (13, true), (14, true), (15, true), (16, true), (17, true), (18, false), (19, false), (20, true)] followsMixed rfl rfl (by kernel_rfl) .all ?_
  refine WM_val rfl rfl rfl rfl (R_load rfl sc23 rfl (mmZ) rfl) ?_
  refine WM_val rfl rfl rfl rfl (R_move rfl rfl) ?_
  refine WM_val rfl rfl rfl rfl (R_nilCheck rfl rfl) ?_
  refine WM_val rfl rfl rfl rfl (R_fieldAddr rfl fa71_4 rfl) ?_
  refine WM_val rfl rfl rfl rfl (R_indexAddrAN rfl Try.underlying67 Try.sizeOf66 rfl rfl (by omega)) ?_
  refine WM_val rfl rfl rfl rfl (R_fieldAddr rfl fa66_2 rfl) ?_
  refine WM_val rfl rfl rfl rfl (R_load (v := .int .u64 (x.since : Int)) rfl sc28 rfl (mmZ) (pc_get (A := pcH s) rfl hx (j := 2) (by omega))) ?_
  refine WM_val rfl rfl rfl rfl (R_load rfl sc23 rfl (mmZ) rfl) ?_
  refine WM_val rfl rfl rfl rfl (R_move rfl rfl) ?_
  refine WM_val rfl rfl rfl rfl (R_nilCheck rfl rfl) ?_
  refine WM_val rfl rfl rfl rfl (R_fieldAddr rfl fa71_4 rfl) ?_
  refine WM_val rfl rfl rfl rfl (R_indexAddrAN rfl Try.underlying67 Try.sizeOf66 rfl rfl (by omega)) ?_
  refine WM_val rfl rfl rfl rfl (R_fieldAddr rfl fa66_2 rfl) ?_
  refine WM_val rfl rfl rfl rfl (R_load (v := .int .u64 (y.since : Int)) rfl sc28 rfl (mmZ) (pc_get (A := pcH s) rfl hy (j := 2) (by omega))) ?_
  refine WM_call rfl (Spec.quiet (cmpt_ok _ _)) rfl rfl rfl rfl rfl rfl rfl (pqZ) ?_
  refine WM_val rfl rfl rfl rfl (R_move rfl rfl) ?_
  refine WM_val rfl rfl rfl rfl (R_move rfl rfl) ?_
  refine WM_call rfl (Spec.quiet (cmpi_ok _ _)) rfl rfl rfl rfl rfl rfl rfl (pqZ) ?_
  refine WM_do rfl rfl rfl rfl (D_buildSlice rfl si78 rfl rfl rfl) ?_
  rintro _ _ ⟨b1, rfl, rfl⟩
  refine ⟨⟨_, pqZ⟩, ?_⟩
  refine WM_do rfl rfl rfl rfl (D_call (cor_ok [cmpI (x.since : Int) (y.since : Int), cmpI (i : Int) (j : Int)] (Nat.le_of_ble_eq_true rfl) _ _ [] (own_litP _ _ (Nat.le_of_ble_eq_true rfl))) rfl rfl rfl rfl (pqZ)) ?_
  rintro _ _ ⟨_, ⟨rfl, rfl⟩, rfl⟩
  refine ⟨⟨_, pqZ⟩, ?_⟩
  refine WM_val rfl rfl rfl rfl (R_assign rfl rfl) ?_
  refine WM_nil ?_
  refine WQ_code ?_
  refine WC_ret ?_
  refine WQ_ret rfl rfl (.cons (.tmp rfl) .nil) rfl (by
      exact ⟨congrArg (Value.int .i64) (show orL [_, _] = idleC s.C _ _ by unfold idleC lexI; rw [since_at hx, since_at hy]), rfl⟩) (pqZ)
end Go.Proofs.Yteofigbgdbpjgaa
end
section
namespace Go.Proofs.Yteofigbgdbpjgaa
/-- **AN ITERATOR** that calls yield on what 'may' come next, till one says no more or all have come. -/
def IterAny (P : Program) (g : FuncId) (ca : List Value) (Hit : Heap) {α : Type} (enc : α → List Value) (may : List α → α → Prop) (all : List α → Prop) : Prop :=
  ∀ (l : Nat) (J Jx : List α → Heap → Prop),
    (∀ pre x hj, may pre x → J pre hj → YSpec P l (enc x) hj (fun v H' => (v = .bool true ∧ J (pre ++ [x]) H') ∨ (v = .bool false ∧ Jx (pre ++ [x]) H'))) →
    ∀ hj, J [] hj → Spec P g (yieldV l :: ca) (Hit ++ hj) (fun _ H' => ∃ h2, ((∃ xs, all xs ∧ J xs h2) ∨ ∃ pre, Jx pre h2) ∧ H' = Hit ++ h2)
/-- **'for .. := range f { body }'**, of an iterator whose order nobody knows, outside of any round. -/
theorem WC_rangeA {X : Ctx} {p : Post} {E : Env} {H : Heap} {α G GX : Type} {f : Operand} {ps : List Tmp} {assign body : Code} {g : FuncId} {ca : List Value} {Hit F1 F2 : Heap} {enc : α → List Value} {may : List α → α → Prop} {all : List α → Prop}
    (hit : IterAny X.P g ca Hit enc may all) (hro : X.ro = none) (hf : ev E f = some (.func (.func g) #[] ca.toArray)) (hlen : ∀ x, (enc x).length = ps.length) (hps : ps.all (fun q => Nat.blt q X.N) = true)
    (I : List α → G → Prop) (GI : G → Heap) (Ix : Code → List α → GX → Prop) (HX : GX → Heap) (g0 : G) (h0 : I [] g0) (hq : Pulls Hit H F1) (hq2 : Pulls (GI g0) F1 F2)
    (hround : ∀ l pre x gg, may pre x → I pre gg → ∀ w, WC ⟨X.P, some l, X.N, [], GI gg, w⟩ assign (begPost X.P l X.N body I GI Ix HX (pre ++ [x]) (GI gg) w) (pushE ps (enc x) E) (GI gg))
    (hdone : ∀ dl xs gg, all xs → I xs gg → WQ { X with D := markOf dl :: X.D } p.nrm E (dlE dl :: (GI gg ++ (Hit ++ F2))))
    (hstop : ∀ dl c pre gx, Ix c pre gx → WC { X with D := markOf dl :: X.D } c p E (dlE dl :: (HX gx ++ (Hit ++ F2)))) :
    WC X (.rangeFunc f ps.toArray assign body) p E H := by
  intro a w ha hw
  refine wpIn_rangeFunc ?_
  intro fn _
  have hF : (fen X.ro).round = none := by rw [hro]; rfl
  rw [hF]
  obtain ⟨r, er⟩ : ∃ r : Loop, r = { state := .ready, pending := none, fn, tmps := a.tmps, params := ps.toArray, assign, body, defers := w.heap.size } := ⟨_, rfl⟩
  have hwa := (hw.alloc (.deferred (some []))).alloc (.loop r)
  rw [World.size_alloc] at hwa
  -- the iterator's contract
  have hS := hit (w.heap.size + 1) (fun ys h => ∃ gg, I ys gg ∧ h = (⟨some (w.heap.size + 1), .loop r⟩ :: dlE w.heap.size :: GI gg : Heap))
    (fun ys h => ∃ c gx, Ix c ys gx ∧ h = (⟨some (w.heap.size + 1), .loop { r with state := .done, pending := some c }⟩ :: dlE w.heap.size :: HX gx : Heap))
    (fun pre x hj hx hJ => by
      obtain ⟨gg, hI, rfl⟩ := hJ
      have e1 : r.params.toList = ps := by rw [er]
      refine ySpec_of (E := E) (N := X.N) (assign := assign) (body := body) (by rw [er]) (by rw [er]) (by rw [er]) (by rw [er]) (by rw [er]; exact ha.size) (by rw [er]; exact ha.env) (by rw [← Array.length_toList, e1]; exact hlen x) (by rw [e1]; exact hps)
        (fun w' => ?_)
      rw [e1]
      exact hround _ pre x gg hx hI w')
    (⟨some (w.heap.size + 1), .loop r⟩ :: dlE w.heap.size :: GI g0) ⟨g0, h0, rfl⟩
  have hp : (⟨some (w.heap.size + 1), .loop r⟩ :: ⟨some w.heap.size, .deferred (some [])⟩ :: H : Heap).Perm ((Hit ++ (⟨some (w.heap.size + 1), .loop r⟩ :: dlE w.heap.size :: GI g0)) ++ F2) := by
    have h1 : H.Perm (Hit ++ (GI g0 ++ F2)) := hq.perm.trans (List.Perm.append_left _ hq2.perm)
    have h2 := (List.Perm.append_left [⟨some (w.heap.size + 1), .loop r⟩, dlE w.heap.size] h1)
    refine h2.trans ?_
    rw [List.append_assoc, ← List.append_assoc]
    exact List.Perm.append_right _ List.perm_append_comm |>.trans (by rw [List.append_assoc]; exact .refl _)
  have hwp := hwa.perm hp
  obtain ⟨W1, eW⟩ : ∃ W1, W1 = (w.alloc (.deferred (some []))).alloc (.loop r) := ⟨_, rfl⟩
  rw [← eW] at hwa hwp
  refine ⟨w.heap.size + 1, [markOf w.heap.size], W1, { target := .fn (.func g) ca.toArray, args := #[yieldV (w.heap.size + 1)] }, W1, g, #[yieldV (w.heap.size + 1)] ++ ca.toArray, W1, ?_, ?_, fun _ _ => trivial, ?_, ?_, ?_⟩
  · rw [eW, er]; exact run_enterLoop_outer _ _ _ _ _
  · simp only [resolve, ha.eval hf]
    simp [go_sem, yieldV]
  · have := hS.enters (#[yieldV (w.heap.size + 1)] ++ ca.toArray) W1
    simpa [invoke] using this
  · intro h; simp [fen, Fence.wide] at h
  · have hc := hS.calls _ hwp.left.hok
    have e2 : (yieldV (w.heap.size + 1) :: ca).toArray = #[yieldV (w.heap.size + 1)] ++ ca.toArray := by simp
    rw [e2] at hc
    rw [hro]
    refine CallsIn.mono hc ?_
    rintro e w3 ⟨v, H', rfl, ⟨h2, hJ, rfl⟩, hw3⟩
    have hw3' := hwa.frame hp hw3
    have ha' : ∀ (D : List Deferred), AE { X with D := D ++ X.D } E { a with defers := D ++ a.defers } := fun D => ⟨ha.size, by simp [ha.defers], ha.env⟩
    rcases hJ with ⟨xs, hall, gg, hI, rfl⟩ | ⟨pre, c, gx, hI, rfl⟩
    · have hp3 : (Hit ++ (⟨some (w.heap.size + 1), .loop r⟩ :: dlE w.heap.size :: GI gg) ++ F2 : Heap).Perm (⟨some (w.heap.size + 1), .loop r⟩ :: dlE w.heap.size :: (GI gg ++ (Hit ++ F2))) := by
        rw [List.append_assoc]
        refine (List.perm_append_comm_assoc _ _ _).trans ?_
        exact .refl _
      have h3 := hw3'.perm hp3
      refine ⟨none, w3.putObj (w.heap.size + 1) (.loop { r with state := .exhausted }), ?_, ?_⟩
      · rw [run_endLoop h3.at (by rw [er]; simp)]; rw [er]
      · exact hdone w.heap.size xs gg hall hI _ _ (ha' [markOf w.heap.size]) ((h3.turn1 (.loop { r with state := .exhausted })).drop .head)
    · have hp3 : (Hit ++ (⟨some (w.heap.size + 1), .loop { r with state := .done, pending := some c }⟩ :: dlE w.heap.size :: HX gx) ++ F2 : Heap).Perm (⟨some (w.heap.size + 1), .loop { r with state := .done, pending := some c }⟩ :: dlE w.heap.size :: (HX gx ++ (Hit ++ F2))) := by
        rw [List.append_assoc]
        refine (List.perm_append_comm_assoc _ _ _).trans ?_
        exact .refl _
      have h3 := hw3'.perm hp3
      refine ⟨some c, w3.putObj (w.heap.size + 1) (.loop { r with state := .exhausted, pending := some c }), ?_, ?_⟩
      · rw [run_endLoop h3.at (by simp)]
      · have := hstop w.heap.size c pre gx hI _ _ (ha' [markOf w.heap.size]) ((h3.turn1 (.loop { r with state := .exhausted, pending := some c })).drop .head)
        rw [hro] at this
        exact this
end Go.Proofs.Yteofigbgdbpjgaa
end
section
set_option linter.unusedVariables false
namespace Go.Proofs.Yteofigbgdbpjgaa
section
variable {κ α : Type} {ek : κ → Value} {ev : α → Value} {W : List (κ × α)} {es : Array MapEntry} {seen : Array Nat} {c : Nat} {ys : List κ}
structure KsG (ek : κ → Value) (W : List (κ × α)) (es : Array MapEntry) (seen : Array Nat) (ys : List κ) : Prop where
  src : ∀ x ∈ ys, x ∈ W.map (·.1)
  nd : ys.Nodup
  seen : ∀ e ∈ es.toList, ∀ k : κ, e.key = ek k → (e.born ∈ seen ↔ k ∈ ys)
theorem born_injG {es : List MapEntry} (h : (es.map (·.born)).Nodup) {e e2 : MapEntry} (h1 : e ∈ es) (h2 : e2 ∈ es) (h3 : e.born = e2.born) : e = e2 := by
  obtain ⟨i, hi⟩ := List.mem_iff_getElem?.1 h1
  obtain ⟨j, hj⟩ := List.mem_iff_getElem?.1 h2
  have e1 : (es.map (·.born))[i]? = some e2.born := by rw [List.getElem?_map, hi]; exact congrArg some h3
  have e3 : (es.map (·.born))[j]? = some e2.born := by rw [List.getElem?_map, hj]; rfl
  obtain ⟨l1, q1⟩ := List.getElem?_eq_some_iff.1 e1
  obtain ⟨l2, q2⟩ := List.getElem?_eq_some_iff.1 e3
  have := (List.getElem_inj h).1 (q1.trans q2.symm)
  subst this
  rw [hi] at hj
  exact Option.some.inj hj
theorem KsG.new (ek : κ → Value) (W : List (κ × α)) (es : Array MapEntry) : KsG ek W es #[] [] := ⟨fun x hx => by (cases hx), .nil, fun e _ k _ => by simp⟩
theorem KsG.next (hinj : ∀ a b, ek a = ek b → a = b) (h : KsG ek W es seen ys) (hM : Mk ek ev es c W) {e : MapEntry} (he : e ∈ es.toList) (hs : e.born ∉ seen) {k : κ} (hk : e.key = ek k) :
    (k ∈ W.map (·.1) ∧ k ∉ ys) ∧ KsG ek W es (seen.push e.born) (ys ++ [k]) := by
  obtain ⟨⟨k', v⟩, hx, e1, _⟩ := hM.back he
  obtain rfl : k' = k := hinj _ _ (e1.symm.trans hk)
  have h1 : k' ∈ W.map (·.1) := List.mem_map.2 ⟨_, hx, rfl⟩
  have h2 : k' ∉ ys := fun hm => hs ((h.seen e he k' hk).2 hm)
  refine ⟨⟨h1, h2⟩, fun x hx => ?_, ?_, fun e2 he2 k2 hk2 => ?_⟩
  · rcases List.mem_append.1 hx with hx | hx
    · exact h.src x hx
    · rw [List.mem_singleton.1 hx]; exact h1
  · rw [List.nodup_append]
    exact ⟨h.nd, by simp, fun a ha b hb => by rw [List.mem_singleton.1 hb]; rintro rfl; exact h2 ha⟩
  · rw [Array.mem_push, List.mem_append, List.mem_singleton, h.seen e2 he2 k2 hk2]
    constructor
    · rintro (q1 | q1)
      · exact .inl q1
      · have := born_injG hM.bnd he2 he q1
        subst this
        exact .inr (hinj _ _ (hk2.symm.trans hk))
    · rintro (q1 | rfl)
      · exact .inl q1
      · right
        have : e2 = e := by
          have hp := hM.perm
          have hnk : (es.toList.map (fun e => e.key)).Nodup := by
            have h5 : (es.toList.map (fun e => e.key)).Perm (W.map fun x => ek x.1) := by
              have := hp.map Prod.fst
              rw [List.map_map, List.map_map] at this
              exact this
            refine h5.nodup_iff.2 ?_
            have h6 : (W.map fun x => ek x.1) = (W.map (·.1)).map ek := by rw [List.map_map]; rfl
            rw [h6, List.nodup_iff_pairwise_ne, List.pairwise_map]
            exact List.Pairwise.imp (S := fun a b : κ => ek a ≠ ek b) (fun {a b} hab e => hab (hinj _ _ e)) (List.nodup_iff_pairwise_ne.1 hM.nodup)
          obtain ⟨i, hi⟩ := List.mem_iff_getElem?.1 he2
          obtain ⟨j, hj⟩ := List.mem_iff_getElem?.1 he
          have q3 : (es.toList.map (fun e => e.key))[i]? = some e.key := by rw [List.getElem?_map, hi]; exact congrArg some (hk2.trans hk.symm)
          have q4 : (es.toList.map (fun e => e.key))[j]? = some e.key := by rw [List.getElem?_map, hj]; rfl
          obtain ⟨l1, r1⟩ := List.getElem?_eq_some_iff.1 q3
          obtain ⟨l2, r2⟩ := List.getElem?_eq_some_iff.1 q4
          have := (List.getElem_inj hnk).1 (r1.trans r2.symm)
          subst this
          rw [hi] at hj
          exact Option.some.inj hj
        rw [this]
theorem KsG.done (h : KsG ek W es seen ys) (hM : Mk ek ev es c W) (hall : ∀ e ∈ es.toList, e.born ∈ seen) : ys.Perm (W.map (·.1)) := by
  classical
  refine (List.perm_ext_iff_of_nodup h.nd hM.nodup).2 fun a => ⟨h.src a, fun ha => ?_⟩
  obtain ⟨⟨k, v⟩, hx, rfl⟩ := List.mem_map.1 ha
  obtain ⟨e, he, hk, _⟩ := hM.has hx
  exact (h.seen e he k hk).1 (hall e he)
theorem pigeonG [DecidableEq κ] : ∀ (ks m : List κ), ks.Nodup → (∀ k ∈ ks, k ∈ m) → ks.length ≤ m.length
  | [], _, _, _ => Nat.zero_le _
  | k :: ks, m, hn, h => by
    have hk : k ∈ m := h k (List.mem_cons_self ..)
    obtain ⟨hk1, hn1⟩ := List.nodup_cons.1 hn
    have := pigeonG ks (m.erase k) hn1 (fun x hx => (List.mem_erase_of_ne (by intro e; subst e; exact hk1 hx)).2 (h x (List.mem_cons_of_mem _ hx)))
    rw [List.length_erase_of_mem hk] at this
    have hp : 0 < m.length := List.length_pos_of_mem hk
    simp only [List.length_cons]
    omega
theorem KsG.len [DecidableEq κ] (h : KsG ek W es seen ys) : ys.length ≤ W.length := by
  have := pigeonG ys (W.map (·.1)) h.nd h.src
  rwa [List.length_map] at this
structure KyG (κ : Type) where
  seen : Array Nat
  ys : List κ
  hj : Heap
/-- What lies there of a key; else 'z'. -/
def getT [DecidableEq κ] (L : List (κ × α)) (k : κ) (z : α) : α := match L.find? (fun x => decide (x.1 = k)) with
  | some x => x.2
  | none => z
theorem getT_in [DecidableEq κ] {L : List (κ × α)} (hn : (L.map (·.1)).Nodup) {k : κ} {a : α} (h : (k, a) ∈ L) (z : α) : getT L k z = a := by
  unfold getT
  cases e : L.find? (fun x => decide (x.1 = k)) with
  | none =>
    have := List.find?_eq_none.1 e (k, a) h
    simp at this
  | some y =>
    have h1 := List.find?_some e
    have h2 := List.mem_of_find?_eq_some e
    simp only [decide_eq_true_eq] at h1
    obtain ⟨k2, a2⟩ := y
    simp only at h1
    subst h1
    exact key_uniq hn h2 h
theorem getT_out [DecidableEq κ] {L : List (κ × α)} {k : κ} (h : k ∉ L.map (·.1)) (z : α) : getT L k z = z := by
  unfold getT
  rw [List.find?_eq_none.2 fun x hx => by
    simp only [decide_eq_true_eq]
    exact fun e => h (List.mem_map.2 ⟨x, hx, e⟩)]
end
/-- v := m[k], whether the key lies there or not. -/
theorem R_lookKT_ {X : Ctx} {E : Env} {H : Heap} {o : Oper} {κ α : Type} [DecidableEq κ] {ek : κ → Value} {ev : α → Value} {es : Array MapEntry} {c b : Nat} {L : List (κ × α)} {mt kt et : TypeId} {x y : Operand} {k : κ} {z : α} (ho : o.op = .lookup mt x y false) (hu : X.P.underlying mt = some (.map kt et)) (K : KeyOk X.P kt ek) (hx : Go.Proofs.Yteofigbgdbpjgaa.ev E x = some (.map (some b))) (hy : Go.Proofs.Yteofigbgdbpjgaa.ev E y = some (ek k)) (hm : (⟨some b, .map es c⟩ : Ent) ∈ H) (hM : Mk ek ev es c L)
    (hz : ∀ w, (zeroValue et).run X.P w = .ok (ev z) w) : Runs X o E H (ev (getT L k z)) := by
  by_cases h : k ∈ L.map (·.1)
  · obtain ⟨⟨k2, a⟩, hxa, rfl⟩ := List.mem_map.1 h
    rw [getT_in hM.nodup hxa]
    exact R_lookK ho hu K hx hy hm hM hxa
  · rw [getT_out h]
    exact R_lookK0 ho hu K hx hy hm hM h hz
end Go.Proofs.Yteofigbgdbpjgaa
end
section
set_option linter.unusedVariables false
set_option maxRecDepth 20000
set_option maxHeartbeats 2000000
namespace Go.Proofs.Yteofigbgdbpjgaa
structure AsI where
  l : List Int
  ob : Option Nat
  c : Nat
  tl : List Value
theorem ekW_inj (a b : Int) (h : ekW a = ekW b) : a = b := by simp only [ekW, Value.int.injEq, true_and] at h; exact h
theorem wkit_ok {W : List (Int × (Nat × Nat))} (bb mb : Nat) (es : Array MapEntry) (c : Nat) (hM : Mk ekW evW es c W) : IterAny Try.prog 76 [.pointer (some ⟨bb, 0, none⟩)] [⟨some bb, cl [.map (some mb)] 69⟩, ⟨some mb, .map es c⟩] (fun a : Int => [ekW a]) (fun pre x => x ∈ W.map (·.1) ∧ x ∉ pre) (fun xs => xs.Perm (W.map (·.1))) := by
  intro lp J Jx hY hj h0
  refine Spec.of (E := [(0, yieldV lp), (1, .pointer (some ⟨bb, 0, none⟩))]) Try.func76 rfl (by kernel_rfl) Try.ntmps76 rfl rfl (fun w => ?_)
  refine WC_seq ?_
  refine WC_region ?_
  refine WL_val rfl rfl rfl (R_load rfl sc69 rfl (mmZ) rfl) ?_
  refine WL_do rfl rfl rfl (D_rangeMap rfl Try.underlying69 rfl mmZ) ?_
  rintro _ _ ⟨bi, rfl, rfl⟩
  refine WL_nil ?_
  refine WQ_code ?_
  refine WC_block ?_
  refine WC_loopH (G := KyG Int) [3, 6, 7, 8, 9, 10, 11, 12, 13] (fun y => KsG ekW W es y.seen y.ys ∧ J y.ys y.hj) (fun y => []) (fun y => [⟨some bi, .mapIter (some mb) c y.seen c⟩, ⟨some bb, cl [.map (some mb)] 69⟩, ⟨some mb, .map es c⟩] ++ y.hj) (fun y => W.length - y.ys.length) (⟨#[], [], hj⟩) (⟨KsG.new ekW W es, h0⟩) leZ (pqZ) ?_
  rintro y ⟨hks, hJ⟩
  refine WC_seq ?_
  refine WC_region ?_
  refine WL_do rfl rfl rfl (D_nextMap rfl rfl plZ mmZ hM.born) ?_
  rintro _ _ (⟨rfl, rfl, hall⟩ | ⟨e, he, hns, rfl, rfl⟩)
  · refine WL_val rfl rfl rfl (R_extract rfl rfl rfl) ?_
    refine WL_set (s := 7) (v := .bool false) rfl (by rfl) ?_
    refine WL_nil ?_
    refine WQ_code ?_
    refine WC_seq ?_
    refine WC_F rfl ?_
    refine WC_exit ?_
    refine WQ_ret rfl rfl .nil rfl (by
        first | exact ⟨_, .inr ⟨_, hJ2⟩, rfl⟩ | exact ⟨_, .inl ⟨_, hks.done hM hall, hJ⟩, rfl⟩) (pqZ)
  · refine WL_val rfl rfl rfl (R_extract rfl rfl rfl) ?_
    refine WL_set (s := 7) (v := .bool true) rfl (by rfl) ?_
    refine WL_nil ?_
    refine WQ_code ?_
    refine WC_seq ?_
    refine WC_T rfl ?_
    refine WC_skip ?_
    refine WQ_code ?_
    refine WC_block ?_
    refine WC_seq ?_
    refine WC_region ?_
    obtain ⟨⟨k, v9⟩, hx, hek, hev⟩ := hM.back he
    dsimp only at hek hev
    obtain ⟨hmay, hks2⟩ := hks.next ekW_inj hM he hns hek
    refine WL_val rfl rfl rfl (R_entryMap rfl rfl mmZ mmZ he hM.bnd) ?_
    rw [hek, hev]
    refine WL_val rfl rfl rfl (R_extract rfl rfl rfl) ?_
    refine WL_val rfl rfl rfl (R_assign rfl rfl) ?_
    refine WL_nil ?_
    refine WQ_code ?_
    refine WC_seq ?_
    refine WC_region ?_
    refine WL_val rfl rfl rfl (R_move rfl rfl) ?_
    refine WL_val rfl rfl rfl (R_move rfl rfl) ?_
    refine WL_do rfl rfl rfl (D_yield (F := [_, _, _]) (hY y.ys k y.hj hmay hJ) rfl rfl rfl rfl (List.Perm.refl _)) ?_
    rintro _ _ ⟨hj2, (⟨rfl, hJ2⟩ | ⟨rfl, hJ2⟩), rfl⟩
    · refine WL_val rfl rfl rfl (R_not rfl rfl) ?_
      refine WL_nil ?_
      refine WQ_code ?_
      refine WC_F rfl ?_
      refine WC_skip ?_
      refine WQ_nextH (gg := y) (⟨y.seen.push e.born, y.ys ++ [k], hj2⟩) (⟨hks2, hJ2⟩) (by have := hks2.len; rw [List.length_append, List.length_singleton] at this; dsimp only; rw [List.length_append, List.length_singleton]; omega) leZ (psZ) rfl (pqZ)
    · refine WL_val rfl rfl rfl (R_not rfl rfl) ?_
      refine WL_nil ?_
      refine WQ_code ?_
      refine WC_T rfl ?_
      refine WC_ret ?_
      refine WQ_ret rfl rfl .nil rfl (by
          first | exact ⟨_, .inr ⟨_, hJ2⟩, rfl⟩ | exact ⟨_, .inl ⟨_, hks.done hM hall, hJ⟩, rfl⟩) (pqZ)
theorem wkeys_ok (mb : Nat) : Spec Try.prog 48 [.map (some mb)] [] (fun r H' => ∃ bb, r = .func (.func 76) #[] #[.pointer (some ⟨bb, 0, none⟩)] ∧ H' = [⟨some bb, cl [.map (some mb)] 69⟩]) := by
  refine Spec.of (E := [(0, .map (some mb))]) Try.func48 rfl (by kernel_rfl) Try.ntmps48 rfl rfl (fun w => ?_)
  refine WC_seq ?_
  refine WC_region ?_
  refine WL_do rfl rfl rfl (D_box (cs := [_]) rfl rfl rfl) ?_
  rintro _ _ ⟨b1, rfl, rfl⟩
  refine WL_val rfl rfl rfl (R_assign rfl rfl) ?_
  refine WL_nil ?_
  refine WQ_code ?_
  refine WC_seq ?_
  refine WC_region ?_
  refine WL_val rfl rfl rfl (R_makeFunc rfl rfl rfl) ?_
  refine WL_val rfl rfl rfl (R_assign rfl rfl) ?_
  refine WL_nil ?_
  refine WQ_code ?_
  refine WC_ret ?_
  refine WQ_ret rfl rfl (.cons (.tmp rfl) .nil) rfl (by
      exact ⟨b1, rfl, rfl⟩) (pqZ)
theorem wapps_ok {W : List (Int × (Nat × Nat))} (hl : W.length ≤ 1001) (bb mb : Nat) (es : Array MapEntry) (c : Nat) (hM : Mk ekW evW es c W) : Spec Try.prog 75 [.slice none 0 0, .func (.func 76) #[] #[.pointer (some ⟨bb, 0, none⟩)]] [⟨some bb, cl [.map (some mb)] 69⟩, ⟨some mb, .map es c⟩] (fun r H' => ∃ (xs : List Int) (o : Option Nat) (c2 : Nat) (tl : List Value), xs.Perm (W.map (·.1)) ∧ r = slV o xs.length c2 ∧ Own o xs.length c2 1 (ivs xs) tl ∧ H' = ⟨o, cl (ivs xs ++ tl) 3⟩ :: [⟨some bb, cl [.map (some mb)] 69⟩, ⟨some mb, .map es c⟩]) := by
  refine Spec.ofM (E := [(0, .slice none 0 0), (1, .func (.func 76) #[] #[.pointer (some ⟨bb, 0, none⟩)])]) Try.func75 rfl (by kernel_rfl) Try.ntmps75 rfl rfl (fun w => ?_)
  refine WC_seq ?_
  refine WC_region ?_
  refine WL_do rfl rfl rfl (D_box (cs := [_]) rfl rfl rfl) ?_
  rintro _ _ ⟨b1, rfl, rfl⟩
  refine WL_val rfl rfl rfl (R_assign rfl rfl) ?_
  refine WL_nil ?_
  refine WQ_code ?_
  refine WC_seq ?_
  refine WC_seq ?_
  refine WC_region ?_
  refine WL_val rfl rfl rfl (R_move rfl rfl) ?_
  refine WL_nil ?_
  refine WQ_code ?_
  refine WC_block ?_
  refine WC_none 3 ?_
  refine WC_rangeA (G := AsI) (GX := Unit) (wkit_ok bb mb es c hM) rfl rfl (fun _ => rfl) rfl (fun pre g => g.l = pre ∧ (pre.Nodup ∧ ∀ x ∈ pre, x ∈ W.map (·.1)) ∧ Own g.ob g.l.length g.c 1 (ivs g.l) g.tl) (fun g => [⟨some b1, cl [slV g.ob g.l.length g.c] 78⟩, ⟨g.ob, cl (ivs g.l ++ g.tl) 3⟩]) (fun _ _ _ => False) (fun _ => []) (⟨[], none, 0, []⟩) (⟨rfl, ⟨.nil, fun x hx => by cases hx⟩, Own.empty 1⟩) (pqZ) (pqZ) ?_ ?_ ?_
  · intro l pre x gg hx hI w2
    obtain ⟨hgl, ⟨hgn, hgs⟩, hgo⟩ := hI
    have hbl : gg.l.length ≤ 1001 := by rw [hgl]; have := pigeonG pre (W.map (·.1)) hgn hgs; rw [List.length_map] at this; omega
    refine WC_region ?_
    refine WL_val rfl rfl rfl (R_assign rfl rfl) ?_
    refine WL_nil ?_
    refine WQ_begin (fun w3 => ?_)
    refine WC_block ?_
    refine WC_region ?_
    refine WL_val rfl rfl rfl (R_load rfl sc78 rfl (mmZ) rfl) ?_
    refine WL_val rfl rfl rfl (R_move rfl rfl) ?_
    refine WL_do rfl rfl rfl (D_buildSlice rfl si78 rfl rfl rfl) ?_
    rintro _ _ ⟨b2, rfl, rfl⟩
    refine WL_do rfl rfl rfl (D_append rfl si78 rfl (hgo) (plZ) rfl (mmZ) ((atZ : At _ 0 [_])) (rfl) (rfl) (by omega) (by omega)) ?_
    rintro _ _ ⟨ob3, cap3, tl3, rfl, own3, rfl⟩
    rw [show ivs gg.l ++ [Value.int .i64 x] = ivs (gg.l ++ [x]) from by simp [ivs], show gg.l.length + 1 = (gg.l ++ [x]).length from by simp] at own3 ⊢
    refine WL_do0 rfl rfl (D_store (vs := [_]) rfl Try.sizeOf78 rfl rfl rfl rfl rfl (plZ) (by exact Nat.le_of_ble_eq_true rfl)) ?_
    rintro _ _ rfl
    refine WL_nil ?_
    refine WQ_rnd (⟨gg.l ++ [x], ob3, cap3, tl3⟩) ?_ (pqZ)
    exact (⟨by rw [← hgl], ⟨by rw [List.nodup_append]; exact ⟨hgn, by simp, fun a ha b hb => by rw [List.mem_singleton.1 hb]; rintro rfl; exact hx.2 ha⟩, fun y hy => by rcases List.mem_append.1 hy with hy | hy; exact hgs y hy; rw [List.mem_singleton.1 hy]; exact hx.1⟩, own3⟩)
  · intro dl xs gg hall hI
    obtain ⟨hgl, _, hgo⟩ := hI
    subst hgl
    refine WQ_code ?_
    refine WC_seq ?_
    refine WC_region ?_
    refine WL_val rfl rfl rfl (R_load rfl sc78 rfl (mmZ) rfl) ?_
    refine WL_val rfl rfl rfl (R_assign rfl rfl) ?_
    refine WL_nil ?_
    refine WQ_code ?_
    refine WC_ret ?_
    refine WQ_retM rfl (plZ) rfl (.cons (.tmp rfl) .nil) rfl (by
        exact ⟨gg.l, gg.ob, gg.c, gg.tl, hall, rfl, hgo, rfl⟩) (pqZ)
  · intro dl c pre gx hIx
    exact hIx.elim
theorem wcoll_ok {W : List (Int × (Nat × Nat))} (hl : W.length ≤ 1001) (bb mb : Nat) (es : Array MapEntry) (c : Nat) (hM : Mk ekW evW es c W) : Spec Try.prog 47 [.func (.func 76) #[] #[.pointer (some ⟨bb, 0, none⟩)]] [⟨some bb, cl [.map (some mb)] 69⟩, ⟨some mb, .map es c⟩] (fun r H' => ∃ (xs : List Int) (o : Option Nat) (c2 : Nat) (tl : List Value), xs.Perm (W.map (·.1)) ∧ r = slV o xs.length c2 ∧ Own o xs.length c2 1 (ivs xs) tl ∧ H' = ⟨o, cl (ivs xs ++ tl) 3⟩ :: [⟨some bb, cl [.map (some mb)] 69⟩, ⟨some mb, .map es c⟩]) := by
  refine Spec.of (E := [(0, .func (.func 76) #[] #[.pointer (some ⟨bb, 0, none⟩)])]) Try.func47 rfl (by kernel_rfl) Try.ntmps47 rfl rfl (fun w => ?_)
  refine WC_seq ?_
  refine WC_region ?_
  refine WL_val rfl rfl rfl (R_assign rfl rfl) ?_
  refine WL_nil ?_
  refine WQ_code ?_
  refine WC_seq ?_
  refine WC_region ?_
  refine WL_val rfl rfl rfl (R_move rfl rfl) ?_
  refine WL_do rfl rfl rfl (D_call (wapps_ok hl bb mb es c hM) rfl rfl rfl rfl (pqZ)) ?_
  rintro _ _ ⟨_, ⟨xs, o9, c9, tl9, hperm, rfl, own9, rfl⟩, rfl⟩
  refine WL_val rfl rfl rfl (R_assign rfl rfl) ?_
  refine WL_nil ?_
  refine WQ_code ?_
  refine WC_ret ?_
  refine WQ_ret rfl rfl (.cons (.tmp rfl) .nil) rfl (by
      exact ⟨xs, o9, c9, tl9, hperm, rfl, own9, rfl⟩) (pqZ)
end Go.Proofs.Yteofigbgdbpjgaa
end
section
set_option linter.unusedVariables false
set_option maxRecDepth 20000
namespace Go.Proofs.Yteofigbgdbpjgaa
structure DelW where
  j : Nat
  A : List Int
  J : List Int
theorem flt_next {p : Int → Bool} {l : List Int} {j : Nat} {x : Int} (h : l[j]? = some x) : (l.take (j + 1)).filter (fun v => !p v) = (l.take j).filter (fun v => !p v) ++ (if p x = true then [] else [x]) := by
  rw [take_next h, List.filter_append]
  cases hp : p x <;> simp [hp]
theorem drop_at {l : List Int} {j : Nat} {x : Int} (h : l[j]? = some x) : l.drop j = x :: l.drop (j + 1) := by
  obtain ⟨h1, rfl⟩ := List.getElem?_eq_some_iff.1 h
  exact List.drop_eq_getElem_cons h1
theorem mid_get {A J R : List Int} {j : Nat} (hj : A.length + J.length = j) {x : Int} : (A ++ (J ++ x :: R))[j]? = some x := by
  subst hj
  rw [List.getElem?_append_right (by omega), List.getElem?_append_right (by omega), show A.length + J.length - A.length - J.length = 0 from by omega]; rfl
theorem mid_set {A J R : List Int} {v y : Int} : (A ++ (y :: J ++ R)).set A.length v = (A ++ [v]) ++ (J ++ R) := by
  rw [List.set_append_right _ _ (Nat.le_refl _), Nat.sub_self]; simp
theorem mid_at {A J R : List Int} {y : Int} : (A ++ (y :: J ++ R))[A.length]? = some y := by
  rw [List.getElem?_append_right (Nat.le_refl _), Nat.sub_self]; rfl
/-- x put into a list from its end, past all that it beats. -/
def insR (cf : Int → Int → Int) (A : List Int) (x : Int) : List Int := (A.reverse.dropWhile (fun y => decide (cf x y < 0))).reverse ++ x :: (A.reverse.takeWhile (fun y => decide (cf x y < 0))).reverse
def isL (cf : Int → Int → Int) (l : List Int) : List Int := l.foldl (insR cf) []
theorem insR_eq {cf : Int → Int → Int} {P B : List Int} {x : Int} (hB : ∀ y ∈ B, cf x y < 0) (hP : P = [] ∨ ∃ P' y, P = P' ++ [y] ∧ ¬ cf x y < 0) : insR cf (P ++ B) x = P ++ x :: B := by
  unfold insR
  have h1 : ∀ y ∈ B.reverse, decide (cf x y < 0) = true := fun y hy => decide_eq_true (hB y (List.mem_reverse.1 hy))
  rw [List.reverse_append, List.takeWhile_append_of_pos h1, List.dropWhile_append_of_pos h1]
  rcases hP with rfl | ⟨P', y, rfl, hy⟩
  · simp
  · rw [List.reverse_append, List.reverse_singleton, List.singleton_append, List.takeWhile_cons_of_neg (by simpa using hy), List.dropWhile_cons_of_neg (by simpa using hy)]
    simp
theorem isL_next {cf : Int → Int → Int} {l : List Int} {i : Nat} {x : Int} (h : l[i]? = some x) : isL cf (l.take (i + 1)) = insR cf (isL cf (l.take i)) x := by
  unfold isL
  rw [take_next h, List.foldl_append]; rfl
theorem insR_perm (cf : Int → Int → Int) (A : List Int) (x : Int) : (insR cf A x).Perm (x :: A) := by
  unfold insR
  refine List.perm_middle.trans (.cons _ ?_)
  have e : (A.reverse.dropWhile (fun y => decide (cf x y < 0))).reverse ++ (A.reverse.takeWhile (fun y => decide (cf x y < 0))).reverse = A := by rw [← List.reverse_append, List.takeWhile_append_dropWhile, List.reverse_reverse]
  exact List.Perm.of_eq e
theorem isL_perm (cf : Int → Int → Int) (l : List Int) : (isL cf l).Perm l := by
  have key : ∀ (l A : List Int), (l.foldl (insR cf) A).Perm (A ++ l) := by
    intro l
    induction l with
    | nil => intro A; rw [List.append_nil]; exact .refl _
    | cons x r ih => intro A; exact (ih _).trans (((insR_perm cf A x).append_right r).trans List.perm_middle.symm)
  exact key l []
theorem isL_len (cf : Int → Int → Int) (l : List Int) : (isL cf l).length = l.length := (isL_perm cf l).length_eq
structure InsW where
  j : Nat
  A : List Int
  B : List Int
theorem snoc_or (P : List Int) : P = [] ∨ ∃ P' y, P = P' ++ [y] := by
  rcases List.eq_nil_or_concat P with h | ⟨P', y, h⟩
  · exact .inl h
  · exact .inr ⟨P', y, by rw [h]; simp⟩
theorem mid_atX {x : Int} {R : List Int} (A : List Int) : (A ++ x :: R)[A.length]? = some x := by
  rw [List.getElem?_append_right (Nat.le_refl _), Nat.sub_self]; rfl
theorem swap_set {P' B R : List Int} {x y : Int} : ((P' ++ [y] ++ x :: (B ++ R)).set (P' ++ [y]).length y).set P'.length x = P' ++ x :: (y :: B ++ R) := by
  rw [List.set_append_right _ _ (Nat.le_refl _), Nat.sub_self, List.set_cons_zero, List.append_assoc, List.set_append_right _ _ (Nat.le_refl _), Nat.sub_self]; rfl
end Go.Proofs.Yteofigbgdbpjgaa
end
section
set_option linter.unusedVariables false
set_option maxRecDepth 20000
set_option maxHeartbeats 1000000
namespace Go.Proofs.Yteofigbgdbpjgaa
theorem isL_one (cf : Int → Int → Int) {l : List Int} (h : 1 ≤ l.length) : isL cf (l.take 1) ++ l.drop 1 = l := by
  cases l with
  | nil => simp at h
  | cons a r => rfl
theorem isort_nil (o : Option Nat) (c : Nat) (fv : Value) (b : Int) (hb : b ≤ 1) : Spec Try.prog 90 [slV o 0 c, .int .i64 0, .int .i64 b, fv] [] (fun r H' => r = .tuple #[] ∧ H' = []) := by
  refine Spec.of (E := [(0, slV o 0 c), (1, .int .i64 0), (2, .int .i64 b), (3, fv)]) Try.func90 rfl (by kernel_rfl) Try.ntmps90 rfl rfl (fun w => ?_)
  refine WC_seq ?_
  refine WC_region ?_
  refine WL_val rfl rfl rfl (R_move rfl rfl) ?_
  refine WL_val rfl rfl rfl (R_add rfl rfl rfl (by omega)) ?_
  refine WL_val rfl rfl rfl (R_assign rfl rfl) ?_
  refine WL_nil ?_
  refine WQ_code ?_
  refine WC_block ?_
  refine WC_loopF (G := Unit) [8, 9, 12, 13, 14, 15, 16, 17, 18, 19, 20, 21, 22, 23, 24, 25, 26, 27, 28, 29, 30, 31, 32, 33, 34, 35, 36, 37, 38, 39, 40, 41, 42, 43, 44, 45, 46, 47, 48, 49, 50, 51, 52] (fun u => True) (fun u => [(8, .int .i64 1)]) (fun u => []) (fun u => 0) (()) (trivial) leZ (pqY) ?_
  rintro u _
  refine WC_seq ?_
  refine WC_seq ?_
  refine WC_region ?_
  refine WL_val rfl rfl rfl (R_move rfl rfl) ?_
  refine WL_val rfl rfl rfl (R_move rfl rfl) ?_
  refine WL_val rfl rfl rfl (R_lss rfl rfl rfl) ?_
  refine WL_nil ?_
  refine WQ_code ?_
  refine WC_dF rfl (by omega) ?_
  refine WC_exit ?_
  refine WQ_ret rfl rfl .nil rfl (by
      exact ⟨rfl, rfl⟩) (pqY)
theorem isort_ok (l : List Int) (wa c : Nat) (tl : List Value) (gf : Nat) (ca : List Value) (Hc : Heap) (cf : Int → Int → Int) (hf : ∀ a ∈ l, ∀ b ∈ l, Spec Try.prog gf (.int .i64 a :: .int .i64 b :: ca) Hc (fun r H' => r = .int .i64 (cf a b) ∧ Hc = H')) (hl : 1 ≤ l.length) (hb : l.length ≤ 1000000) :
    Spec Try.prog 90 [slV (some wa) l.length c, .int .i64 0, .int .i64 (l.length : Int), .func (.func gf) #[] ca.toArray] (⟨some wa, cl (ivs l ++ tl) 3⟩ :: Hc) (fun r H' => r = .tuple #[] ∧ H' = ⟨some wa, cl (ivs (isL cf l) ++ tl) 3⟩ :: Hc) := by
  refine Spec.of (E := [(0, slV (some wa) l.length c), (1, .int .i64 0), (2, .int .i64 (l.length : Int)), (3, .func (.func gf) #[] ca.toArray)]) Try.func90 rfl (by kernel_rfl) Try.ntmps90 rfl rfl (fun w => ?_)
  refine WC_seq ?_
  refine WC_region ?_
  refine WL_val rfl rfl rfl (R_move rfl rfl) ?_
  refine WL_val rfl rfl rfl (R_add rfl rfl rfl (by omega)) ?_
  refine WL_val rfl rfl rfl (R_assign rfl rfl) ?_
  refine WL_nil ?_
  refine WQ_code ?_
  refine WC_block ?_
  rw [show cl (ivs l ++ tl) 3 = cl (ivs (isL cf (l.take 1) ++ l.drop 1) ++ tl) 3 from by rw [isL_one cf hl]]
  refine WC_loopF (G := Nat) [8, 9, 12, 13, 14, 15, 16, 17, 18, 19, 20, 21, 22, 23, 24, 25, 26, 27, 28, 29, 30, 31, 32, 33, 34, 35, 36, 37, 38, 39, 40, 41, 42, 43, 44, 45, 46, 47, 48, 49, 50, 51, 52] (fun k => 1 ≤ k ∧ k ≤ l.length) (fun k => [(8, .int .i64 (k : Int))]) (fun k => [⟨some wa, cl (ivs (isL cf (l.take k) ++ l.drop k) ++ tl) 3⟩]) (fun k => l.length - k) (1) (⟨Nat.le_refl _, hl⟩) leZ (pqY) ?_
  rintro k ⟨hk1, hk⟩
  refine WC_seq ?_
  refine WC_seq ?_
  refine WC_region ?_
  refine WL_val rfl rfl rfl (R_move rfl rfl) ?_
  refine WL_val rfl rfl rfl (R_move rfl rfl) ?_
  refine WL_val rfl rfl rfl (R_lss rfl rfl rfl) ?_
  refine WL_nil ?_
  refine WQ_code ?_
  refine WC_dec rfl (fun c1 => ?_) (fun c1 => ?_)
  · refine WC_skip ?_
    refine WQ_code ?_
    refine WC_seq ?_
    refine WC_block ?_
    refine WC_seq ?_
    refine WC_region ?_
    refine WL_val rfl rfl rfl (R_move rfl rfl) ?_
    refine WL_val rfl rfl rfl (R_assign rfl rfl) ?_
    refine WL_nil ?_
    refine WQ_code ?_
    refine WC_block ?_
    obtain ⟨x, hx⟩ := getE (T := l) (i := k) (by omega)
    have hxl := List.mem_of_getElem? hx
    rw [show cl (ivs (isL cf (l.take k) ++ l.drop k) ++ tl) 3 = cl (ivs (isL cf (l.take k) ++ x :: ([] ++ l.drop (k + 1))) ++ tl) 3 from by rw [drop_at hx]; rfl]
    refine WC_loopF (G := InsW) [9, 18, 19, 20, 21, 22, 23, 24, 25, 26, 27, 28, 29, 30, 31, 32, 33, 34, 35, 36, 37, 38, 39, 40, 41, 42, 43, 44, 45, 46, 47, 48, 49, 50, 51, 52] (fun y => y.j = y.A.length ∧ isL cf (l.take k) = y.A ++ y.B ∧ ∀ z ∈ y.B, cf x z < 0) (fun y => [(9, .int .i64 (y.j : Int))]) (fun y => [⟨some wa, cl (ivs (y.A ++ x :: (y.B ++ l.drop (k + 1))) ++ tl) 3⟩]) (fun y => y.j) (⟨k, isL cf (l.take k), []⟩) (⟨by dsimp only; rw [isL_len, List.length_take]; omega, (List.append_nil _).symm, fun z hz => by cases hz⟩) leZ (pqY) ?_
    rintro y ⟨hj, hAB, hBx⟩
    have hjk : y.j ≤ k := by have h8 := isL_len cf (l.take k); rw [hAB, List.length_append, List.length_take] at h8; omega
    refine WC_seq ?_
    refine WC_seq ?_
    refine WC_draw _ [(0, true), (1, true), (2, true), (3, true), (4, true), (5, true), (6, true), (7, true), (8, true), (9, true), (10, true), (11, true), (12, true), (13, true), (14, false), (15, true), (16, true)] followsMixed rfl rfl (by kernel_rfl) .all ?_
    refine WM_val rfl rfl rfl rfl (R_move rfl rfl) ?_
    refine WM_val rfl rfl rfl rfl (R_move rfl rfl) ?_
    refine WM_val rfl rfl rfl rfl (R_gtr rfl rfl rfl) ?_
    refine WM_val rfl rfl rfl rfl (R_move rfl rfl) ?_
    refine WM_splitD (s := 21) rfl (fun c2 => ?_) (fun c2 => ?_)
    · obtain ⟨P2, y2, hP⟩ : ∃ P2 y2, y.A = P2 ++ [y2] := by rcases snoc_or y.A with e | e; rw [e] at hj; simp at hj; omega; exact e
      have hjl : y.j = P2.length + 1 := by rw [hj, hP, List.length_append]; rfl
      have hlast : (y.A ++ x :: (y.B ++ l.drop (k + 1)))[P2.length]? = some y2 := by rw [hP, List.append_assoc, List.getElem?_append_right (Nat.le_refl _), Nat.sub_self]; rfl
      have hyl : y2 ∈ l := List.mem_of_mem_take ((isL_perm cf (l.take k)).mem_iff.1 (by rw [hAB, hP]; simp))
      have hxat : (y.A ++ x :: (y.B ++ l.drop (k + 1)))[y.A.length]? = some x := mid_atX y.A
      have hsw1 : putAt (ivs (y.A ++ x :: (y.B ++ l.drop (k + 1))) ++ tl) (0 + y.A.length * 1) [.int .i64 y2] = ivs ((y.A ++ x :: (y.B ++ l.drop (k + 1))).set y.A.length y2) ++ tl := by have := fm_put0 encI1 y2 hxat (j := 0) (vs := [.int .i64 y2]) (by simp) rfl (tl := tl); rw [Nat.add_zero] at this; exact this
      have hP2at : ((y.A ++ x :: (y.B ++ l.drop (k + 1))).set y.A.length y2)[P2.length]? = some y2 := by rw [List.getElem?_set_ne (by rw [hP, List.length_append]; simp), hlast]
      have hsw2 : putAt (ivs ((y.A ++ x :: (y.B ++ l.drop (k + 1))).set y.A.length y2) ++ tl) (0 + P2.length * 1) [.int .i64 x] = ivs (P2 ++ x :: ((y2 :: y.B) ++ l.drop (k + 1))) ++ tl := by have := fm_put0 encI1 x hP2at (j := 0) (vs := [.int .i64 x]) (by simp) rfl (tl := tl); rw [Nat.add_zero] at this; rw [show ivs (P2 ++ x :: ((y2 :: y.B) ++ l.drop (k + 1))) = (((y.A ++ x :: (y.B ++ l.drop (k + 1))).set y.A.length y2).set P2.length x).flatMap encI from by rw [hP, swap_set]]; exact this
      refine WM_val rfl rfl rfl rfl (R_move rfl rfl) ?_
      refine WM_val rfl rfl rfl rfl (R_move rfl rfl) ?_
      refine WM_val rfl rfl rfl rfl (R_move rfl rfl) ?_
      first | refine WZ_set (s := 24) (v := .int .i64 ((y.A.length : Nat) : Int)) rfl (by rw [hj]) ?_ | refine WM_set (s := 24) (v := .int .i64 ((y.A.length : Nat) : Int)) rfl (by rw [hj]) ?_
      refine WM_val rfl rfl rfl rfl (R_indexAddrN rfl Try.underlying78 Try.sizeOf3 rfl rfl (by omega)) ?_
      refine WM_val rfl rfl rfl rfl (R_load (v := .int .i64 x) rfl sc3 rfl (mmY) (fm_get0 encI1 (mid_atX (x := x) (R := y.B ++ l.drop (k + 1)) y.A) (j := 0) (by omega))) ?_
      refine WM_val rfl rfl rfl rfl (R_move rfl rfl) ?_
      refine WM_val rfl rfl rfl rfl (R_move rfl rfl) ?_
      refine WM_val rfl rfl rfl rfl (R_sub rfl rfl rfl (by omega)) ?_
      first | refine WZ_set (s := 29) (v := .int .i64 ((P2.length : Nat) : Int)) rfl (by rw [hjl]; exact congrArg (Value.int .i64) (by omega)) ?_ | refine WM_set (s := 29) (v := .int .i64 ((P2.length : Nat) : Int)) rfl (by rw [hjl]; exact congrArg (Value.int .i64) (by omega)) ?_
      refine WM_val rfl rfl rfl rfl (R_indexAddrN rfl Try.underlying78 Try.sizeOf3 rfl rfl (by omega)) ?_
      refine WM_val rfl rfl rfl rfl (R_load (v := .int .i64 y2) rfl sc3 rfl (mmY) (fm_get0 encI1 hlast (j := 0) (by omega))) ?_
      refine WM_do rfl rfl rfl rfl (D_call (hf x hxl y2 hyl) rfl rfl rfl rfl (pqY)) ?_
      rintro _ _ ⟨_, ⟨rfl, rfl⟩, rfl⟩
      refine ⟨⟨_, pqY⟩, ?_⟩
      refine WM_val rfl rfl rfl rfl (R_lss rfl rfl rfl) ?_
      refine WM_val rfl rfl rfl rfl (R_pickT rfl rfl rfl) ?_
      refine WM_nil ?_
      refine WQ_code ?_
      refine WC_dec rfl (fun c3 => ?_) (fun c3 => ?_)
      · have hc := c3
        refine WC_skip ?_
        refine WQ_code ?_
        refine WC_seq ?_
        refine WC_block ?_
        refine WC_drawE [⟨some wa, _⟩] [(0, false), (1, false), (2, false), (3, false), (4, false), (5, false), (6, false), (7, false), (8, false), (9, true), (10, false), (11, false), (12, false), (13, true)] [(14, true), (15, false), (16, true), (17, false)] followsMixed rfl rfl (by kernel_rfl) (pqY) ?_
        refine WZ_val rfl rfl rfl rfl (R_move rfl rfl) ?_
        refine WZ_val rfl rfl rfl rfl (R_move rfl rfl) ?_
        first | refine WZ_set (s := 38) (v := .int .i64 ((y.A.length : Nat) : Int)) rfl (by rw [hj]) ?_ | refine WM_set (s := 38) (v := .int .i64 ((y.A.length : Nat) : Int)) rfl (by rw [hj]) ?_
        refine WZ_val rfl rfl rfl rfl (R_move rfl rfl) ?_
        refine WZ_val rfl rfl rfl rfl (R_move rfl rfl) ?_
        refine WZ_val rfl rfl rfl rfl (R_sub rfl rfl rfl (by omega)) ?_
        first | refine WZ_set (s := 41) (v := .int .i64 ((P2.length : Nat) : Int)) rfl (by rw [hjl]; exact congrArg (Value.int .i64) (by omega)) ?_ | refine WM_set (s := 41) (v := .int .i64 ((P2.length : Nat) : Int)) rfl (by rw [hjl]; exact congrArg (Value.int .i64) (by omega)) ?_
        refine WZ_val rfl rfl rfl rfl (R_move rfl rfl) ?_
        refine WZ_val rfl rfl rfl rfl (R_move rfl rfl) ?_
        refine WZ_val rfl rfl rfl rfl (R_sub rfl rfl rfl (by omega)) ?_
        first | refine WZ_set (s := 44) (v := .int .i64 ((P2.length : Nat) : Int)) rfl (by rw [hjl]; exact congrArg (Value.int .i64) (by omega)) ?_ | refine WM_set (s := 44) (v := .int .i64 ((P2.length : Nat) : Int)) rfl (by rw [hjl]; exact congrArg (Value.int .i64) (by omega)) ?_
        refine WZ_val rfl rfl rfl rfl (R_indexAddrN rfl Try.underlying78 Try.sizeOf3 rfl rfl (by omega)) ?_
        refine WZ_early rfl rfl rfl rfl (R_load (v := .int .i64 y2) rfl sc3 rfl (mmY) (fm_get0 encI1 hlast (j := 0) (by omega))) ?_
        refine WZ_val rfl rfl rfl rfl (R_move rfl rfl) ?_
        refine WZ_val rfl rfl rfl rfl (R_move rfl rfl) ?_
        first | refine WZ_set (s := 48) (v := .int .i64 ((y.A.length : Nat) : Int)) rfl (by rw [hj]) ?_ | refine WM_set (s := 48) (v := .int .i64 ((y.A.length : Nat) : Int)) rfl (by rw [hj]) ?_
        refine WZ_val rfl rfl rfl rfl (R_indexAddrN rfl Try.underlying78 Try.sizeOf3 rfl rfl (by omega)) ?_
        refine WZ_early rfl rfl rfl rfl (R_load (v := .int .i64 x) rfl sc3 rfl (mmY) (fm_get0 encI1 (mid_atX (x := x) (R := y.B ++ l.drop (k + 1)) y.A) (j := 0) (by omega))) ?_
        refine WZ_rest ?_
        refine WM_val rfl rfl rfl rfl (R_indexAddrN rfl Try.underlying78 Try.sizeOf3 rfl rfl (by omega)) ?_
        refine WM_do0 rfl rfl rfl (D_store (vs := [_]) rfl Try.sizeOf3 rfl rfl rfl rfl rfl (plY) (by exact fm_room0 encI1 (show y.A.length < (y.A ++ x :: (y.B ++ l.drop (k + 1))).length by rw [List.length_append]; simp) (j := 0) (by omega))) ?_
        rintro _ _ rfl
        refine ⟨⟨_, pqY⟩, ?_⟩
        rw [hsw1]
        refine WM_val rfl rfl rfl rfl (R_indexAddrN rfl Try.underlying78 Try.sizeOf3 rfl rfl (by omega)) ?_
        refine WM_do0 rfl rfl rfl (D_store (vs := [_]) rfl Try.sizeOf3 rfl rfl rfl rfl rfl (plY) (by exact fm_room0 encI1 (show P2.length < ((y.A ++ x :: (y.B ++ l.drop (k + 1))).set y.A.length y2).length by rw [List.length_set, List.length_append, hP, List.length_append]; simp; omega) (j := 0) (by omega))) ?_
        rintro _ _ rfl
        refine ⟨⟨_, pqY⟩, ?_⟩
        rw [hsw2]
        refine WM_nil ?_
        refine WQ_code ?_
        refine WC_region ?_
        refine WL_val rfl rfl rfl (R_move rfl rfl) ?_
        refine WL_val rfl rfl rfl (R_sub rfl rfl rfl (by omega)) ?_
        refine WL_set (s := 36) (v := .int .i64 ((P2.length : Nat) : Int)) rfl (by rw [hjl]; exact congrArg (Value.int .i64) (by omega)) ?_
        refine WL_val rfl rfl rfl (R_assign rfl rfl) ?_
        refine WL_nil ?_
        refine WQ_nextF (⟨P2.length, P2, y2 :: y.B⟩) (⟨rfl, by rw [hAB, hP]; simp, fun z hz => by rcases List.mem_cons.1 hz with rfl | hz; exact hc; exact hBx z hz⟩) (by dsimp only; omega) leZ (psZ) rfl (pqY)
      · have hc := c3
        have hex : y.A = [] ∨ ∃ P z, y.A = P ++ [z] ∧ ¬ cf x z < 0 := .inr ⟨P2, y2, hP, hc⟩
        refine WC_exit ?_
        refine WQ_code ?_
        refine WC_region ?_
        refine WL_val rfl rfl rfl (R_move rfl rfl) ?_
        refine WL_val rfl rfl rfl (R_add rfl rfl rfl (by omega)) ?_
        refine WL_val rfl rfl rfl (R_assign rfl rfl) ?_
        refine WL_nil ?_
        rw [show cl (ivs (y.A ++ x :: (y.B ++ l.drop (k + 1))) ++ tl) 3 = cl (ivs (isL cf (l.take (k + 1)) ++ l.drop (k + 1)) ++ tl) 3 from by rw [isL_next hx, hAB, insR_eq hBx hex]; simp]
        refine WQ_nextF (k + 1) (⟨by omega, by omega⟩) (by omega) leZ (psZ) rfl (pqY)
    · have hex : y.A = [] ∨ ∃ P z, y.A = P ++ [z] ∧ ¬ cf x z < 0 := .inl (List.eq_nil_of_length_eq_zero (by omega))
      refine WM_skip rfl rfl rfl rfl ?_
      refine WM_skip rfl rfl rfl rfl ?_
      refine WM_skip rfl rfl rfl rfl ?_
      refine WM_skip rfl rfl rfl rfl ?_
      refine WM_skip rfl rfl rfl rfl ?_
      refine WM_skip rfl rfl rfl rfl ?_
      refine WM_skip rfl rfl rfl rfl ?_
      refine WM_skip rfl rfl rfl rfl ?_
      refine WM_skip rfl rfl rfl rfl ?_
      refine WM_skip rfl rfl rfl rfl ?_
      refine WM_skipF rfl rfl rfl rfl (pqY) ?_
      refine WM_skip rfl rfl rfl rfl ?_
      refine WM_val rfl rfl rfl rfl (R_pickF rfl rfl rfl) ?_
      refine WM_nil ?_
      refine WQ_code ?_
      refine WC_F rfl ?_
      refine WC_exit ?_
      refine WQ_code ?_
      refine WC_region ?_
      refine WL_val rfl rfl rfl (R_move rfl rfl) ?_
      refine WL_val rfl rfl rfl (R_add rfl rfl rfl (by omega)) ?_
      refine WL_val rfl rfl rfl (R_assign rfl rfl) ?_
      refine WL_nil ?_
      rw [show cl (ivs (y.A ++ x :: (y.B ++ l.drop (k + 1))) ++ tl) 3 = cl (ivs (isL cf (l.take (k + 1)) ++ l.drop (k + 1)) ++ tl) 3 from by rw [isL_next hx, hAB, insR_eq hBx hex]; simp]
      refine WQ_nextF (k + 1) (⟨by omega, by omega⟩) (by omega) leZ (psZ) rfl (pqY)
  · have hkl : k = l.length := by omega
    refine WC_exit ?_
    rw [hkl, List.take_length, List.drop_length, List.append_nil]
    refine WQ_ret rfl rfl .nil rfl (by
        exact ⟨rfl, rfl⟩) (pqY)
theorem stab_nil (o : Option Nat) (c : Nat) (fv : Value) : Spec Try.prog 80 [slV o 0 c, .int .i64 0, fv] [] (fun r H' => r = .tuple #[] ∧ H' = []) := by
  refine Spec.of (E := [(0, slV o 0 c), (1, .int .i64 0), (2, fv)]) Try.func80 rfl (by kernel_rfl) Try.ntmps80 rfl rfl (fun w => ?_)
  refine WC_seq ?_
  refine WC_region ?_
  refine WL_val rfl rfl rfl (R_assign rfl rfl) ?_
  refine WL_nil ?_
  refine WQ_code ?_
  refine WC_seq ?_
  refine WC_region ?_
  refine WL_val rfl rfl rfl (R_move rfl rfl) ?_
  refine WL_val rfl rfl rfl (R_assign rfl rfl) ?_
  refine WL_val rfl rfl rfl (R_assign rfl rfl) ?_
  refine WL_nil ?_
  refine WQ_code ?_
  refine WC_seq ?_
  refine WC_block ?_
  refine WC_loopF (G := Unit) [7, 8, 11, 12, 13, 14, 15, 16, 17, 18, 19, 20, 21, 22] (fun u => True) (fun u => [(7, .int .i64 0), (8, .int .i64 20)]) (fun u => []) (fun u => 0) (()) (trivial) leZ (pqY) ?_
  rintro u _
  refine WC_seq ?_
  refine WC_seq ?_
  refine WC_region ?_
  refine WL_val rfl rfl rfl (R_move rfl rfl) ?_
  refine WL_val rfl rfl rfl (R_move rfl rfl) ?_
  refine WL_val rfl rfl rfl (R_leq rfl rfl rfl) ?_
  refine WL_nil ?_
  refine WQ_code ?_
  refine WC_dF rfl (by omega) ?_
  refine WC_exit ?_
  refine WQ_code ?_
  refine WC_seq ?_
  refine WC_region ?_
  refine WL_val rfl rfl rfl (R_move rfl rfl) ?_
  refine WL_val rfl rfl rfl (R_move rfl rfl) ?_
  refine WL_val rfl rfl rfl (R_move rfl rfl) ?_
  refine WL_val rfl rfl rfl (R_move rfl rfl) ?_
  refine WL_do rfl rfl rfl (D_call (isort_nil o c fv 0 (by omega)) rfl rfl rfl rfl (pqY)) ?_
  rintro _ _ ⟨_, ⟨rfl, rfl⟩, rfl⟩
  refine WL_nil ?_
  refine WQ_code ?_
  refine WC_block ?_
  refine WC_loopF (G := Unit) [6, 7, 8, 9, 28, 29, 30, 31, 32, 33, 34, 35, 36, 37, 38, 39, 40, 41, 42, 43, 44, 45, 46, 47, 48, 49, 50, 51, 52, 53, 54, 55, 56, 57, 58, 59, 60, 61, 62] (fun u => True) (fun u => [(6, .int .i64 20)]) (fun u => []) (fun u => 0) (()) (trivial) leZ (pqY) ?_
  rintro u _
  refine WC_seq ?_
  refine WC_seq ?_
  refine WC_region ?_
  refine WL_val rfl rfl rfl (R_move rfl rfl) ?_
  refine WL_val rfl rfl rfl (R_move rfl rfl) ?_
  refine WL_val rfl rfl rfl (R_lss rfl rfl rfl) ?_
  refine WL_nil ?_
  refine WQ_code ?_
  refine WC_dF rfl (by omega) ?_
  refine WC_exit ?_
  refine WQ_ret rfl rfl .nil rfl (by
      exact ⟨rfl, rfl⟩) (pqY)
theorem stab_some (l : List Int) (wa c : Nat) (tl : List Value) (gf : Nat) (ca : List Value) (Hc : Heap) (cf : Int → Int → Int) (hf : ∀ a ∈ l, ∀ b ∈ l, Spec Try.prog gf (.int .i64 a :: .int .i64 b :: ca) Hc (fun r H' => r = .int .i64 (cf a b) ∧ Hc = H')) (hl : 1 ≤ l.length) (hb : l.length ≤ 19) :
    Spec Try.prog 80 [slV (some wa) l.length c, .int .i64 (l.length : Int), .func (.func gf) #[] ca.toArray] (⟨some wa, cl (ivs l ++ tl) 3⟩ :: Hc) (fun r H' => r = .tuple #[] ∧ H' = ⟨some wa, cl (ivs (isL cf l) ++ tl) 3⟩ :: Hc) := by
  refine Spec.of (E := [(0, slV (some wa) l.length c), (1, .int .i64 (l.length : Int)), (2, .func (.func gf) #[] ca.toArray)]) Try.func80 rfl (by kernel_rfl) Try.ntmps80 rfl rfl (fun w => ?_)
  refine WC_seq ?_
  refine WC_region ?_
  refine WL_val rfl rfl rfl (R_assign rfl rfl) ?_
  refine WL_nil ?_
  refine WQ_code ?_
  refine WC_seq ?_
  refine WC_region ?_
  refine WL_val rfl rfl rfl (R_move rfl rfl) ?_
  refine WL_val rfl rfl rfl (R_assign rfl rfl) ?_
  refine WL_val rfl rfl rfl (R_assign rfl rfl) ?_
  refine WL_nil ?_
  refine WQ_code ?_
  refine WC_seq ?_
  refine WC_block ?_
  refine WC_loopF (G := Unit) [7, 8, 11, 12, 13, 14, 15, 16, 17, 18, 19, 20, 21, 22] (fun u => True) (fun u => [(7, .int .i64 0), (8, .int .i64 20)]) (fun u => []) (fun u => 0) (()) (trivial) leZ (pqY) ?_
  rintro u _
  refine WC_seq ?_
  refine WC_seq ?_
  refine WC_region ?_
  refine WL_val rfl rfl rfl (R_move rfl rfl) ?_
  refine WL_val rfl rfl rfl (R_move rfl rfl) ?_
  refine WL_val rfl rfl rfl (R_leq rfl rfl rfl) ?_
  refine WL_nil ?_
  refine WQ_code ?_
  refine WC_dF rfl (by omega) ?_
  refine WC_exit ?_
  refine WQ_code ?_
  refine WC_seq ?_
  refine WC_region ?_
  refine WL_val rfl rfl rfl (R_move rfl rfl) ?_
  refine WL_val rfl rfl rfl (R_move rfl rfl) ?_
  refine WL_val rfl rfl rfl (R_move rfl rfl) ?_
  refine WL_val rfl rfl rfl (R_move rfl rfl) ?_
  refine WL_do rfl rfl rfl (D_call (isort_ok l wa c tl gf ca Hc cf hf hl (by omega)) rfl rfl rfl rfl (pqY)) ?_
  rintro _ _ ⟨_, ⟨rfl, rfl⟩, rfl⟩
  refine WL_nil ?_
  refine WQ_code ?_
  refine WC_block ?_
  refine WC_loopF (G := Unit) [6, 7, 8, 9, 28, 29, 30, 31, 32, 33, 34, 35, 36, 37, 38, 39, 40, 41, 42, 43, 44, 45, 46, 47, 48, 49, 50, 51, 52, 53, 54, 55, 56, 57, 58, 59, 60, 61, 62] (fun u => True) (fun u => [(6, .int .i64 20)]) (fun u => []) (fun u => 0) (()) (trivial) leZ (pqY) ?_
  rintro u _
  refine WC_seq ?_
  refine WC_seq ?_
  refine WC_region ?_
  refine WL_val rfl rfl rfl (R_move rfl rfl) ?_
  refine WL_val rfl rfl rfl (R_move rfl rfl) ?_
  refine WL_val rfl rfl rfl (R_lss rfl rfl rfl) ?_
  refine WL_nil ?_
  refine WQ_code ?_
  refine WC_dF rfl (by omega) ?_
  refine WC_exit ?_
  refine WQ_ret rfl rfl .nil rfl (by
      exact ⟨rfl, rfl⟩) (pqY)
theorem stabf_nil (o : Option Nat) (c : Nat) (fv : Value) : Spec Try.prog 55 [slV o 0 c, fv] [] (fun r H' => r = .tuple #[] ∧ H' = []) := by
  refine Spec.of (E := [(0, slV o 0 c), (1, fv)]) Try.func55 rfl (by kernel_rfl) Try.ntmps55 rfl rfl (fun w => ?_)
  refine WC_region ?_
  refine WL_val rfl rfl rfl (R_move rfl rfl) ?_
  refine WL_val rfl rfl rfl (R_move rfl rfl) ?_
  refine WL_val rfl rfl rfl (R_len rfl Try.underlying78 rfl) ?_
  refine WL_val rfl rfl rfl (R_move rfl rfl) ?_
  refine WL_do rfl rfl rfl (D_call (stab_nil o c fv) rfl rfl rfl rfl (pqY)) ?_
  rintro _ _ ⟨_, ⟨rfl, rfl⟩, rfl⟩
  refine WL_nil ?_
  refine WQ_ret rfl rfl .nil rfl (by
      exact ⟨rfl, rfl⟩) (pqY)
theorem stabf_some (l : List Int) (wa c : Nat) (tl : List Value) (gf : Nat) (ca : List Value) (Hc : Heap) (cf : Int → Int → Int) (hf : ∀ a ∈ l, ∀ b ∈ l, Spec Try.prog gf (.int .i64 a :: .int .i64 b :: ca) Hc (fun r H' => r = .int .i64 (cf a b) ∧ Hc = H')) (hl : 1 ≤ l.length) (hb : l.length ≤ 19) :
    Spec Try.prog 55 [slV (some wa) l.length c, .func (.func gf) #[] ca.toArray] (⟨some wa, cl (ivs l ++ tl) 3⟩ :: Hc) (fun r H' => r = .tuple #[] ∧ H' = ⟨some wa, cl (ivs (isL cf l) ++ tl) 3⟩ :: Hc) := by
  refine Spec.of (E := [(0, slV (some wa) l.length c), (1, .func (.func gf) #[] ca.toArray)]) Try.func55 rfl (by kernel_rfl) Try.ntmps55 rfl rfl (fun w => ?_)
  refine WC_region ?_
  refine WL_val rfl rfl rfl (R_move rfl rfl) ?_
  refine WL_val rfl rfl rfl (R_move rfl rfl) ?_
  refine WL_val rfl rfl rfl (R_len rfl Try.underlying78 rfl) ?_
  refine WL_val rfl rfl rfl (R_move rfl rfl) ?_
  refine WL_do rfl rfl rfl (D_call (stab_some l wa c tl gf ca Hc cf hf hl hb) rfl rfl rfl rfl (pqY)) ?_
  rintro _ _ ⟨_, ⟨rfl, rfl⟩, rfl⟩
  refine WL_nil ?_
  refine WQ_ret rfl rfl .nil rfl (by
      exact ⟨rfl, rfl⟩) (pqY)
/-- SortStableFunc of few elements: they are put in one by one. -/
theorem stabf_ok (l : List Int) (o : Option Nat) (c : Nat) (tl : List Value) (own : Own o l.length c 1 (ivs l) tl) (gf : Nat) (ca : List Value) (Hc : Heap) (cf : Int → Int → Int) (hf : ∀ a ∈ l, ∀ b ∈ l, Spec Try.prog gf (.int .i64 a :: .int .i64 b :: ca) Hc (fun r H' => r = .int .i64 (cf a b) ∧ Hc = H')) (hb : l.length ≤ 19) :
    Spec Try.prog 55 [slV o l.length c, .func (.func gf) #[] ca.toArray] (⟨o, cl (ivs l ++ tl) 3⟩ :: Hc) (fun r H' => r = .tuple #[] ∧ H' = ⟨o, cl (ivs (isL cf l) ++ tl) 3⟩ :: Hc) := by
  by_cases hl : 1 ≤ l.length
  · obtain ⟨wa, rfl⟩ := own.some_of (by omega)
    exact stabf_some l wa c tl gf ca Hc cf hf hl hb
  · have h0 : l = [] := List.eq_nil_of_length_eq_zero (by omega)
    subst h0
    exact ((stabf_nil o c (.func (.func gf) #[] ca.toArray)).fr (⟨o, cl (ivs [] ++ tl) 3⟩ :: Hc)).mono fun r H' ⟨H1, ⟨h1, h2⟩, h3⟩ => ⟨h1, by rw [h3, h2]; rfl⟩
end Go.Proofs.Yteofigbgdbpjgaa
end
section
set_option linter.unusedVariables false
set_option maxRecDepth 20000
set_option maxHeartbeats 1000000
namespace Go.Proofs.Yteofigbgdbpjgaa
abbrev plQ (Q : List Qp) (a : Int) : Nat × Nat := getT (wq Q) a (0, 0)
def keepW (Q : List Qp) (now : Nat) (a : Int) : Bool := !decide (now ≠ 18446744073709551615 ∧ (plQ Q a).2 ≤ now)
def lateC (Q : List Qp) (a b : Int) : Int := lexI ((plQ Q a).2 : Int) ((plQ Q b).2 : Int) ((plQ Q a).1 : Int) ((plQ Q b).1 : Int)
def young (s : PS) (now : Nat) (a : Int) : Bool := decide (s.keep = 18446744073709551615 ∨ now - sinceI s.C a < s.keep)
def ageC (C : List Cn) (a b : Int) : Int := cmpI (sinceI C a) (sinceI C b)
theorem vpas_ok (d now : Nat) : Spec Try.prog 50 [.int .u64 (d : Int), .int .u64 (now : Int)] [] (fun r H' => r = .bool (decide (now ≠ 18446744073709551615 ∧ d ≤ now)) ∧ H' = []) := by
  refine Spec.of (E := [(0, .int .u64 (d : Int)), (1, .int .u64 (now : Int))]) Try.func50 rfl (by kernel_rfl) Try.ntmps50 rfl rfl (fun w => ?_)
  refine WC_seq ?_
  refine WC_region ?_
  refine WL_val rfl rfl rfl (R_assign rfl rfl) ?_
  refine WL_nil ?_
  refine WQ_code ?_
  refine WC_seq ?_
  refine WC_region ?_
  refine WL_val rfl rfl rfl (R_move rfl rfl) ?_
  refine WL_val rfl rfl rfl (R_neq rfl rfl rfl) ?_
  refine WL_val rfl rfl rfl (R_move rfl rfl) ?_
  refine WL_splitD (s := 7) rfl (fun c1 => ?_) (fun c1 => ?_)
  · have hg := c1
    refine WL_val rfl rfl rfl (R_move rfl rfl) ?_
    refine WL_val rfl rfl rfl (R_move rfl rfl) ?_
    refine WL_val rfl rfl rfl (R_leq rfl rfl rfl) ?_
    refine WL_val rfl rfl rfl (R_pickT rfl rfl rfl) ?_
    refine WL_val rfl rfl rfl (R_assign rfl rfl) ?_
    refine WL_nil ?_
    refine WQ_code ?_
    refine WC_ret ?_
    refine WQ_ret rfl rfl (.cons (.tmp rfl) .nil) rfl (by
        first | exact ⟨congrArg Value.bool (decide_eq_decide.2 (by omega)), rfl⟩ | exact ⟨congrArg Value.bool (decide_eq_false (by omega)).symm, rfl⟩) (pqZ)
  · have hg := c1
    refine WL_skip rfl rfl rfl ?_
    refine WL_skip rfl rfl rfl ?_
    refine WL_skip rfl rfl rfl ?_
    refine WL_val rfl rfl rfl (R_pickF rfl rfl rfl) ?_
    refine WL_val rfl rfl rfl (R_assign rfl rfl) ?_
    refine WL_nil ?_
    refine WQ_code ?_
    refine WC_ret ?_
    refine WQ_ret rfl rfl (.cons (.tmp rfl) .nil) rfl (by
        first | exact ⟨congrArg Value.bool (decide_eq_decide.2 (by omega)), rfl⟩ | exact ⟨congrArg Value.bool (decide_eq_false (by omega)).symm, rfl⟩) (pqZ)
theorem nan64_ok (a : Int) : Spec Try.prog 79 [.int .u64 a] [] (fun r H' => r = .bool false ∧ H' = []) := by
  refine Spec.of (E := [(0, .int .u64 a)]) Try.func79 rfl (by kernel_rfl) Try.ntmps79 rfl rfl (fun w => ?_)
  refine WC_seq ?_
  refine WC_region ?_
  refine WL_val rfl rfl rfl (R_assign rfl rfl) ?_
  refine WL_nil ?_
  refine WQ_code ?_
  refine WC_seq ?_
  refine WC_region ?_
  refine WL_val rfl rfl rfl (R_move rfl rfl) ?_
  refine WL_val rfl rfl rfl (R_move rfl rfl) ?_
  refine WL_val rfl rfl rfl (R_neq rfl rfl rfl) ?_
  refine WL_val rfl rfl rfl (R_assign rfl rfl) ?_
  refine WL_nil ?_
  refine WQ_code ?_
  refine WC_ret ?_
  refine WQ_ret rfl rfl (.cons (.tmp rfl) .nil) rfl (by
      exact ⟨congrArg Value.bool (by simp), rfl⟩) (pqZ)
theorem cmp64_ok (a b : Int) : Spec Try.prog 53 [.int .u64 a, .int .u64 b] [] (fun r H' => r = .int .i64 (cmpI a b) ∧ H' = []) := by
  refine Spec.of (E := [(0, .int .u64 a), (1, .int .u64 b)]) Try.func53 rfl (by kernel_rfl) Try.ntmps53 rfl rfl (fun w => ?_)
  refine WC_seq ?_
  refine WC_region ?_
  refine WL_val rfl rfl rfl (R_assign rfl rfl) ?_
  refine WL_nil ?_
  refine WQ_code ?_
  refine WC_seq ?_
  refine WC_region ?_
  refine WL_val rfl rfl rfl (R_move rfl rfl) ?_
  refine WL_do rfl rfl rfl (D_call (nan64_ok _) rfl rfl rfl rfl (pqZ)) ?_
  rintro _ _ ⟨_, ⟨rfl, rfl⟩, rfl⟩
  refine WL_val rfl rfl rfl (R_assign rfl rfl) ?_
  refine WL_nil ?_
  refine WQ_code ?_
  refine WC_seq ?_
  refine WC_region ?_
  refine WL_val rfl rfl rfl (R_move rfl rfl) ?_
  refine WL_do rfl rfl rfl (D_call (nan64_ok _) rfl rfl rfl rfl (pqZ)) ?_
  rintro _ _ ⟨_, ⟨rfl, rfl⟩, rfl⟩
  refine WL_val rfl rfl rfl (R_assign rfl rfl) ?_
  refine WL_nil ?_
  refine WQ_code ?_
  refine WC_seq ?_
  refine WC_seq ?_
  refine WC_region ?_
  refine WL_val rfl rfl rfl (R_move rfl rfl) ?_
  refine WL_nil ?_
  refine WQ_code ?_
  refine WC_F rfl ?_
  refine WC_skip ?_
  refine WQ_code ?_
  refine WC_seq ?_
  refine WC_seq ?_
  refine WC_region ?_
  refine WL_val rfl rfl rfl (R_move rfl rfl) ?_
  refine WL_nil ?_
  refine WQ_code ?_
  refine WC_F rfl ?_
  refine WC_skip ?_
  refine WQ_code ?_
  refine WC_seq ?_
  refine WC_seq ?_
  refine WC_region ?_
  refine WL_val rfl rfl rfl (R_move rfl rfl) ?_
  refine WL_val rfl rfl rfl (R_move rfl rfl) ?_
  refine WL_val rfl rfl rfl (R_lss rfl rfl rfl) ?_
  refine WL_nil ?_
  refine WQ_code ?_
  refine WC_dec rfl (fun c1 => ?_) (fun c1 => ?_)
  · refine WC_seq ?_
    refine WC_region ?_
    refine WL_val rfl rfl rfl (R_assign rfl rfl) ?_
    refine WL_nil ?_
    refine WQ_code ?_
    refine WC_ret ?_
    refine WQ_ret rfl rfl (.cons (.tmp rfl) .nil) rfl (by
        exact ⟨congrArg (Value.int .i64) (by unfold cmpI; (repeat split) <;> omega), rfl⟩) (pqZ)
  · refine WC_skip ?_
    refine WQ_code ?_
    refine WC_seq ?_
    refine WC_seq ?_
    refine WC_region ?_
    refine WL_val rfl rfl rfl (R_move rfl rfl) ?_
    refine WL_val rfl rfl rfl (R_move rfl rfl) ?_
    refine WL_val rfl rfl rfl (R_gtr rfl rfl rfl) ?_
    refine WL_nil ?_
    refine WQ_code ?_
    refine WC_dec rfl (fun c2 => ?_) (fun c2 => ?_)
    · refine WC_seq ?_
      refine WC_region ?_
      refine WL_val rfl rfl rfl (R_assign rfl rfl) ?_
      refine WL_nil ?_
      refine WQ_code ?_
      refine WC_ret ?_
      refine WQ_ret rfl rfl (.cons (.tmp rfl) .nil) rfl (by
          exact ⟨congrArg (Value.int .i64) (by unfold cmpI; (repeat split) <;> omega), rfl⟩) (pqZ)
    · refine WC_skip ?_
      refine WQ_code ?_
      refine WC_seq ?_
      refine WC_region ?_
      refine WL_val rfl rfl rfl (R_assign rfl rfl) ?_
      refine WL_nil ?_
      refine WQ_code ?_
      refine WC_ret ?_
      refine WQ_ret rfl rfl (.cons (.tmp rfl) .nil) rfl (by
          exact ⟨congrArg (Value.int .i64) (by unfold cmpI; (repeat split) <;> omega), rfl⟩) (pqZ)
theorem padv1_ok {m : PM} {s : PS} (h : PIs m s) (b2 b3 now : Nat) (a : Int) : Spec Try.prog 49 [.int .i64 a, .pointer (some ⟨b2, 0, none⟩), .pointer (some ⟨b3, 0, none⟩)] [⟨some b2, cl [ptrP m.p] 23⟩, ⟨some b3, cl [.int .u64 (now : Int)] 28⟩, poP m s, poW m] (fun r H' => r = .bool (keepW s.Q now a) ∧ [⟨some b2, cl [ptrP m.p] 23⟩, ⟨some b3, cl [.int .u64 (now : Int)] 28⟩, poP m s, poW m] = H') := by
  refine Spec.of (E := [(0, .int .i64 a), (1, .pointer (some ⟨b2, 0, none⟩)), (2, .pointer (some ⟨b3, 0, none⟩))]) Try.func49 rfl (by kernel_rfl) Try.ntmps49 rfl rfl (fun w => ?_)
  refine WC_seq ?_
  refine WC_region ?_
  refine WL_val rfl rfl rfl (R_assign rfl rfl) ?_
  refine WL_nil ?_
  refine WQ_code ?_
  refine WC_seq ?_
  refine WC_draw _ [(0, true), (1, true), (2, true), (3, true), (4, true), (5, true), (6, true), (7, true), (8, true), (9, true), (10, true)] followsMixed rfl rfl (by kernel_rfl) .all ?_
  refine WM_val rfl rfl rfl rfl (R_load rfl sc23 rfl (mmZ) rfl) ?_
  refine WM_val rfl rfl rfl rfl (R_nilCheck rfl rfl) ?_
  refine WM_val rfl rfl rfl rfl (R_fieldAddr rfl fa71_6 rfl) ?_
  refine WM_val rfl rfl rfl rfl (R_load (v := .map (some m.wm)) rfl sc69 rfl (mmZ) (pc_t h.cl rfl 1)) ?_
  refine WM_val rfl rfl rfl rfl (R_move rfl rfl) ?_
  refine WM_val rfl rfl rfl rfl (R_lookKT_ (k := a) (z := ((0, 0) : Nat × Nat)) rfl Try.underlying69 int_key rfl rfl mmZ h.wM (fun w => Try.zeroValue86 w)) ?_
  refine WM_val rfl rfl rfl rfl (R_field rfl Try.underlying86 rfl rfl sc28 rfl rfl) ?_
  refine WM_val rfl rfl rfl rfl (R_load rfl sc28 rfl (mmZ) rfl) ?_
  refine WM_call rfl (Spec.quiet (vpas_ok _ now)) rfl rfl rfl rfl rfl rfl rfl (pqZ) ?_
  refine WM_val rfl rfl rfl rfl (R_not rfl rfl) ?_
  refine WM_val rfl rfl rfl rfl (R_assign rfl rfl) ?_
  refine WM_nil ?_
  refine WQ_code ?_
  refine WC_ret ?_
  refine WQ_ret rfl rfl (.cons (.tmp rfl) .nil) rfl (by
      exact ⟨rfl, rfl⟩) (pqZ)
theorem padv2_ok {m : PM} {s : PS} (h : PIs m s) (b2 : Nat) (a b : Int) : Spec Try.prog 52 [.int .i64 a, .int .i64 b, .pointer (some ⟨b2, 0, none⟩)] [⟨some b2, cl [ptrP m.p] 23⟩, poP m s, poW m] (fun r H' => r = .int .i64 (lateC s.Q a b) ∧ H' = [⟨some b2, cl [ptrP m.p] 23⟩, poP m s, poW m]) := by
  refine Spec.of (E := [(0, .int .i64 a), (1, .int .i64 b), (2, .pointer (some ⟨b2, 0, none⟩))]) Try.func52 rfl (by kernel_rfl) Try.ntmps52 rfl rfl (fun w => ?_)
  refine WC_seq ?_
  refine WC_region ?_
  refine WL_val rfl rfl rfl (R_assign rfl rfl) ?_
  refine WL_nil ?_
  refine WQ_code ?_
  refine WC_seq ?_
  refine WC_drawB _ [(0, .q), (1, .q), (2, .q), (3, .q), (4, .q), (5, .q), (6, .q), (7, .q), (8, .q), (9, .q), (10, .q), (11, .q), (12, .b [13]), (13, .b []), (14, .n []), (15, .n [])] followsMixed rfl rfl (by kernel_rfl) .all ?_
  refine WB_val rfl rfl rfl rfl (R_load rfl sc23 rfl (mmZ) rfl) ?_
  refine WB_val rfl rfl rfl rfl (R_nilCheck rfl rfl) ?_
  refine WB_val rfl rfl rfl rfl (R_fieldAddr rfl fa71_6 rfl) ?_
  refine WB_val rfl rfl rfl rfl (R_load (v := .map (some m.wm)) rfl sc69 rfl (mmZ) (pc_t h.cl rfl 1)) ?_
  refine WB_val rfl rfl rfl rfl (R_move rfl rfl) ?_
  refine WB_val rfl rfl rfl rfl (R_lookKT_ (k := a) (z := ((0, 0) : Nat × Nat)) rfl Try.underlying69 int_key rfl rfl mmZ h.wM (fun w => Try.zeroValue86 w)) ?_
  refine WB_val rfl rfl rfl rfl (R_load rfl sc23 rfl (mmZ) rfl) ?_
  refine WB_val rfl rfl rfl rfl (R_nilCheck rfl rfl) ?_
  refine WB_val rfl rfl rfl rfl (R_fieldAddr rfl fa71_6 rfl) ?_
  refine WB_val rfl rfl rfl rfl (R_load (v := .map (some m.wm)) rfl sc69 rfl (mmZ) (pc_t h.cl rfl 1)) ?_
  refine WB_val rfl rfl rfl rfl (R_move rfl rfl) ?_
  refine WB_val rfl rfl rfl rfl (R_lookKT_ (k := b) (z := ((0, 0) : Nat × Nat)) rfl Try.underlying69 int_key rfl rfl mmZ h.wM (fun w => Try.zeroValue86 w)) ?_
  refine WB_birth rfl rfl rfl rfl (.cons rfl rfl (B_alloc rfl zv86) .nil) (B_alloc rfl zv86) (fun b1 => ?_)
  refine WB_birth rfl rfl rfl rfl .nil (B_alloc rfl zv86) (fun b2 => ?_)
  refine WB_do0 rfl rfl rfl .nil (fun _ => D_store (vs := [_, _]) rfl Try.sizeOf86 rfl rfl rfl rfl rfl (plZ) (by exact Nat.le_of_ble_eq_true rfl)) ?_
  rintro _ _ rfl
  refine ⟨⟨_, pqZ⟩, ?_⟩
  refine WB_do0 rfl rfl rfl .nil (fun _ => D_store (vs := [_, _]) rfl Try.sizeOf86 rfl rfl rfl rfl rfl (plZ) (by exact Nat.le_of_ble_eq_true rfl)) ?_
  rintro _ _ rfl
  refine ⟨⟨_, pqZ⟩, ?_⟩
  refine WB_nil ?_
  refine WQ_code ?_
  refine WC_seq ?_
  refine WC_draw _ [(0, true), (1, true), (2, true), (3, true), (4, true), (5, true), (6, true), (7, true), (8, true), (9, true), (10, false), (11, false), (12, true)] followsMixed rfl rfl (by kernel_rfl) .all ?_
  refine WM_val rfl rfl rfl rfl (R_fieldAddr rfl fa86_1 rfl) ?_
  refine WM_val rfl rfl rfl rfl (R_load rfl sc28 rfl (mmZ) rfl) ?_
  refine WM_val rfl rfl rfl rfl (R_fieldAddr rfl fa86_1 rfl) ?_
  refine WM_val rfl rfl rfl rfl (R_load rfl sc28 rfl (mmZ) rfl) ?_
  refine WM_call rfl (Spec.quiet (cmpt_ok _ _)) rfl rfl rfl rfl rfl rfl rfl (pqZ) ?_
  refine WM_val rfl rfl rfl rfl (R_fieldAddr rfl fa86_0 rfl) ?_
  refine WM_val rfl rfl rfl rfl (R_load rfl sc27 rfl (mmZ) rfl) ?_
  refine WM_val rfl rfl rfl rfl (R_fieldAddr rfl fa86_0 rfl) ?_
  refine WM_val rfl rfl rfl rfl (R_load rfl sc27 rfl (mmZ) rfl) ?_
  refine WM_call rfl (Spec.quiet (cmp64_ok _ _)) rfl rfl rfl rfl rfl rfl rfl (pqZ) ?_
  refine WM_do rfl rfl rfl rfl (D_buildSlice rfl si78 rfl rfl rfl) ?_
  rintro _ _ ⟨b3, rfl, rfl⟩
  refine ⟨⟨_, pqZ⟩, ?_⟩
  refine WM_do rfl rfl rfl rfl (D_call (cor_ok [cmpI ((plQ s.Q a).2 : Int) ((plQ s.Q b).2 : Int), cmpI ((plQ s.Q a).1 : Int) ((plQ s.Q b).1 : Int)] (Nat.le_of_ble_eq_true rfl) _ _ [] (own_litP _ _ (Nat.le_of_ble_eq_true rfl))) rfl rfl rfl rfl (pqZ)) ?_
  rintro _ _ ⟨_, ⟨rfl, rfl⟩, rfl⟩
  refine ⟨⟨_, pqZ⟩, ?_⟩
  refine WM_val rfl rfl rfl rfl (R_assign rfl rfl) ?_
  refine WM_nil ?_
  refine WQ_code ?_
  refine WC_ret ?_
  refine WQ_ret rfl rfl (.cons (.tmp rfl) .nil) rfl (by
      exact ⟨rfl, rfl⟩) (pqZ)
theorem padv3_ok {m : PM} {s : PS} (h : PIs m s) (b2 b3 now : Nat) (hn : s.now ≤ now) (hb : now ≤ 18446744073709551615) (a : Int) (ha : a ∈ allI 3 s.C) : Spec Try.prog 54 [.int .i64 a, .pointer (some ⟨b2, 0, none⟩), .pointer (some ⟨b3, 0, none⟩)] [⟨some b2, cl [ptrP m.p] 23⟩, ⟨some b3, cl [.int .u64 (now : Int)] 28⟩, poP m s] (fun r H' => r = .bool (young s now a) ∧ [⟨some b2, cl [ptrP m.p] 23⟩, ⟨some b3, cl [.int .u64 (now : Int)] 28⟩, poP m s] = H') := by
  obtain ⟨i, x, rfl, hx, _⟩ := allI_mem ha
  have hi := (List.getElem?_eq_some_iff.1 hx).1
  rw [h.cl] at hi
  have hsi := h.since x (List.mem_of_getElem? hx)
  have hkp := h.keep
  refine Spec.of (E := [(0, .int .i64 (i : Int)), (1, .pointer (some ⟨b2, 0, none⟩)), (2, .pointer (some ⟨b3, 0, none⟩))]) Try.func54 rfl (by kernel_rfl) Try.ntmps54 rfl rfl (fun w => ?_)
  refine WC_seq ?_
  refine WC_region ?_
  refine WL_val rfl rfl rfl (R_assign rfl rfl) ?_
  refine WL_nil ?_
  refine WQ_code ?_
  refine WC_seq ?_
  refine WC_draw _ [(0, true), (1, true), (2, true), (3, true), (4, true), (5, true), (6, true), (7, true), (8, true), (9, true), (10, true), (11, true), (12, true), (13, true), (14, true), (15, true), (16, true), (17, true), (18, true), (19, true), (20, true), (21, true)] followsMixed rfl rfl (by kernel_rfl) .all ?_
  refine WM_val rfl rfl rfl rfl (R_load rfl sc23 rfl (mmZ) rfl) ?_
  refine WM_val rfl rfl rfl rfl (R_nilCheck rfl rfl) ?_
  refine WM_val rfl rfl rfl rfl (R_fieldAddr rfl fa71_2 rfl) ?_
  refine WM_val rfl rfl rfl rfl (R_load rfl sc28 rfl (mmZ) rfl) ?_
  refine WM_val rfl rfl rfl rfl (R_eql rfl rfl rfl) ?_
  refine WM_val rfl rfl rfl rfl (R_move rfl rfl) ?_
  refine WM_splitD (s := 10) rfl (fun c1 => ?_) (fun c1 => ?_)
  · have hg := c1
    refine WM_skip rfl rfl rfl rfl ?_
    refine WM_skip rfl rfl rfl rfl ?_
    refine WM_skip rfl rfl rfl rfl ?_
    refine WM_skip rfl rfl rfl rfl ?_
    refine WM_skip rfl rfl rfl rfl ?_
    refine WM_skip rfl rfl rfl rfl ?_
    refine WM_skip rfl rfl rfl rfl ?_
    refine WM_skip rfl rfl rfl rfl ?_
    refine WM_skip rfl rfl rfl rfl ?_
    refine WM_skip rfl rfl rfl rfl ?_
    refine WM_skip rfl rfl rfl rfl ?_
    refine WM_skip rfl rfl rfl rfl ?_
    refine WM_skip rfl rfl rfl rfl ?_
    refine WM_skip rfl rfl rfl rfl ?_
    refine WM_val rfl rfl rfl rfl (R_pickT rfl rfl rfl) ?_
    refine WM_val rfl rfl rfl rfl (R_assign rfl rfl) ?_
    refine WM_nil ?_
    refine WQ_code ?_
    refine WC_ret ?_
    refine WQ_ret rfl rfl (.cons (.tmp rfl) .nil) rfl (by
        first | exact ⟨congrArg Value.bool (by unfold young; rw [since_at hx]; exact decide_eq_decide.2 (by omega)), rfl⟩ | exact ⟨congrArg Value.bool (by unfold young; rw [since_at hx]; exact (decide_eq_true (by omega)).symm), rfl⟩) (pqZ)
  · have hg := c1
    refine WM_val rfl rfl rfl rfl (R_load rfl sc28 rfl (mmZ) rfl) ?_
    refine WM_val rfl rfl rfl rfl (R_load rfl sc23 rfl (mmZ) rfl) ?_
    refine WM_val rfl rfl rfl rfl (R_move rfl rfl) ?_
    refine WM_val rfl rfl rfl rfl (R_nilCheck rfl rfl) ?_
    refine WM_val rfl rfl rfl rfl (R_fieldAddr rfl fa71_4 rfl) ?_
    refine WM_val rfl rfl rfl rfl (R_indexAddrAN rfl Try.underlying67 Try.sizeOf66 rfl rfl (by omega)) ?_
    refine WM_val rfl rfl rfl rfl (R_fieldAddr rfl fa66_2 rfl) ?_
    refine WM_val rfl rfl rfl rfl (R_load (v := .int .u64 (x.since : Int)) rfl sc28 rfl (mmZ) (pc_get (A := pcH s) rfl hx (j := 2) (by omega))) ?_
    refine WM_val rfl rfl rfl rfl (R_subR (r := ((now - x.since : Nat) : Int)) rfl rfl rfl (by rw [w64 ⟨by omega, by omega⟩]; omega)) ?_
    refine WM_val rfl rfl rfl rfl (R_load rfl sc23 rfl (mmZ) rfl) ?_
    refine WM_val rfl rfl rfl rfl (R_nilCheck rfl rfl) ?_
    refine WM_val rfl rfl rfl rfl (R_fieldAddr rfl fa71_2 rfl) ?_
    refine WM_val rfl rfl rfl rfl (R_load rfl sc28 rfl (mmZ) rfl) ?_
    refine WM_val rfl rfl rfl rfl (R_lss rfl rfl rfl) ?_
    refine WM_val rfl rfl rfl rfl (R_pickF rfl rfl rfl) ?_
    refine WM_val rfl rfl rfl rfl (R_assign rfl rfl) ?_
    refine WM_nil ?_
    refine WQ_code ?_
    refine WC_ret ?_
    refine WQ_ret rfl rfl (.cons (.tmp rfl) .nil) rfl (by
        first | exact ⟨congrArg Value.bool (by unfold young; rw [since_at hx]; exact decide_eq_decide.2 (by omega)), rfl⟩ | exact ⟨congrArg Value.bool (by unfold young; rw [since_at hx]; exact (decide_eq_true (by omega)).symm), rfl⟩) (pqZ)
theorem padv4_ok {m : PM} {s : PS} (h : PIs m s) (b2 : Nat) (a b : Int) (ha : a ∈ allI 3 s.C) (hb : b ∈ allI 3 s.C) : Spec Try.prog 56 [.int .i64 a, .int .i64 b, .pointer (some ⟨b2, 0, none⟩)] [⟨some b2, cl [ptrP m.p] 23⟩, poP m s] (fun r H' => r = .int .i64 (ageC s.C a b) ∧ [⟨some b2, cl [ptrP m.p] 23⟩, poP m s] = H') := by
  obtain ⟨i, x, rfl, hx, _⟩ := allI_mem ha
  obtain ⟨j, y, rfl, hy, _⟩ := allI_mem hb
  have hi := (List.getElem?_eq_some_iff.1 hx).1
  have hj := (List.getElem?_eq_some_iff.1 hy).1
  rw [h.cl] at hi hj
  refine Spec.of (E := [(0, .int .i64 (i : Int)), (1, .int .i64 (j : Int)), (2, .pointer (some ⟨b2, 0, none⟩))]) Try.func56 rfl (by kernel_rfl) Try.ntmps56 rfl rfl (fun w => ?_)
  refine WC_seq ?_
  refine WC_region ?_
  refine WL_val rfl rfl rfl (R_assign rfl rfl) ?_
  refine WL_nil ?_
  refine WQ_code ?_
  refine WC_seq ?_
  refine WC_draw _ [(0, true), (1, true), (2, true), (3, true), (4, true), (5, true), (6, true), (7, true), (8, true), (9, true), (10, true), (11, true), (12, true), (13, true), (14, true), (15, true)] followsMixed rfl rfl (by kernel_rfl) .all ?_
  refine WM_val rfl rfl rfl rfl (R_load rfl sc23 rfl (mmZ) rfl) ?_
  refine WM_val rfl rfl rfl rfl (R_move rfl rfl) ?_
  refine WM_val rfl rfl rfl rfl (R_nilCheck rfl rfl) ?_
  refine WM_val rfl rfl rfl rfl (R_fieldAddr rfl fa71_4 rfl) ?_
  refine WM_val rfl rfl rfl rfl (R_indexAddrAN rfl Try.underlying67 Try.sizeOf66 rfl rfl (by omega)) ?_
  refine WM_val rfl rfl rfl rfl (R_fieldAddr rfl fa66_2 rfl) ?_
  refine WM_val rfl rfl rfl rfl (R_load (v := .int .u64 (x.since : Int)) rfl sc28 rfl (mmZ) (pc_get (A := pcH s) rfl hx (j := 2) (by omega))) ?_
  refine WM_val rfl rfl rfl rfl (R_load rfl sc23 rfl (mmZ) rfl) ?_
  refine WM_val rfl rfl rfl rfl (R_move rfl rfl) ?_
  refine WM_val rfl rfl rfl rfl (R_nilCheck rfl rfl) ?_
  refine WM_val rfl rfl rfl rfl (R_fieldAddr rfl fa71_4 rfl) ?_
  refine WM_val rfl rfl rfl rfl (R_indexAddrAN rfl Try.underlying67 Try.sizeOf66 rfl rfl (by omega)) ?_
  refine WM_val rfl rfl rfl rfl (R_fieldAddr rfl fa66_2 rfl) ?_
  refine WM_val rfl rfl rfl rfl (R_load (v := .int .u64 (y.since : Int)) rfl sc28 rfl (mmZ) (pc_get (A := pcH s) rfl hy (j := 2) (by omega))) ?_
  refine WM_call rfl (Spec.quiet (cmpt_ok _ _)) rfl rfl rfl rfl rfl rfl rfl (pqZ) ?_
  refine WM_val rfl rfl rfl rfl (R_assign rfl rfl) ?_
  refine WM_nil ?_
  refine WQ_code ?_
  refine WC_ret ?_
  refine WQ_ret rfl rfl (.cons (.tmp rfl) .nil) rfl (by
      exact ⟨congrArg (Value.int .i64) (by unfold ageC; rw [since_at hx, since_at hy]), rfl⟩) (pqZ)
end Go.Proofs.Yteofigbgdbpjgaa
end
section
set_option linter.unusedVariables false
set_option maxRecDepth 20000
namespace Go.Proofs.Yteofigbgdbpjgaa
theorem lexI_lt (x y a b : Int) : lexI x y a b < 0 ↔ x < y ∨ (x = y ∧ a < b) := by
  unfold lexI
  simp only [orL, cmpI]
  (repeat' split) <;> omega
theorem srt_uniq {α : Type} {lt : α → α → Prop} : ∀ {l l2 : List α}, l.Perm l2 → l.Pairwise (fun a b => ¬ lt b a) → l2.Pairwise lt → l = l2
  | [], l2, hp, _, _ => by rw [List.nil_perm.1 hp]
  | a :: r, [], hp, _, _ => by have := hp.length_eq; simp at this
  | a :: r, b :: r2, hp, h1, h2 => by
    obtain ⟨h1a, h1b⟩ := List.pairwise_cons.1 h1
    obtain ⟨h2a, h2b⟩ := List.pairwise_cons.1 h2
    have e : a = b := by
      have hb : b ∈ a :: r := hp.mem_iff.2 (List.mem_cons_self ..)
      have ha : a ∈ b :: r2 := hp.mem_iff.1 (List.mem_cons_self ..)
      rcases List.mem_cons.1 ha with h | h
      · exact h
      · rcases List.mem_cons.1 hb with h3 | h3
        · exact h3.symm
        · exact absurd (h2a a h) (h1a b h3)
    subst e
    rw [srt_uniq (List.Perm.cons_inv hp) h1b h2b]
def PS.late (s : PS) (now : Nat) : List Qp := (s.Q.filter (fun x => decide (x.dl ≤ now))).mergeSort (fun a b => decide (a.dl < b.dl ∨ (a.dl = b.dl ∧ a.t ≤ b.t)))
def PS.tmo (s : PS) (x : Qp) : PS := (s.leave x.who).tell 4 x.who (-1)
def PS.old (s : PS) (now : Nat) : List Int := ((allI 3 s.C).filter (fun a => !young s now a)).mergeSort (fun a b => decide (sinceI s.C a < sinceI s.C b ∨ (sinceI s.C a = sinceI s.C b ∧ a ≤ b)))
def PS.shut (s : PS) (c : Int) : PS := (s.tell 5 (-1) c).lose c.toNat
def PS.adv1 (s : PS) (now : Nat) : PS := (s.late now).foldl PS.tmo (s.at_ now)
def PS.advance (s : PS) (now : Nat) : PS := if s.may true now ≠ 0 then s else ((s.adv1 now).old now).foldl PS.shut (s.adv1 now)
abbrev ltQ (a b : Qp) : Prop := a.dl < b.dl ∨ (a.dl = b.dl ∧ a.t < b.t)
theorem late_perm (s : PS) (now : Nat) : (s.late now).Perm (s.Q.filter (fun x => decide (x.dl ≤ now))) := List.mergeSort_perm _ _
theorem late_mem {s : PS} {now : Nat} {x : Qp} (h : x ∈ s.late now) : x ∈ s.Q ∧ x.dl ≤ now := by
  have := (late_perm s now).mem_iff.1 h
  rw [List.mem_filter] at this
  exact ⟨this.1, of_decide_eq_true this.2⟩
theorem late_srt {s : PS} {g : Nat} (hq : Qk (fq s.Q) g) (now : Nat) : (s.late now).Pairwise ltQ := by
  have h1 : (s.late now).Pairwise (fun a b => decide (a.dl < b.dl ∨ (a.dl = b.dl ∧ a.t ≤ b.t)) = true) := List.pairwise_mergeSort (fun a b c h1 h2 => by simp only [decide_eq_true_eq] at *; omega) (fun a b => by simp only [Bool.or_eq_true, decide_eq_true_eq]; omega) _
  have h2 : (s.late now).Pairwise (fun a b => a.t ≠ b.t) := by
    have h3 : (s.Q.map (·.t)).Nodup := by
      have := hq.nodup
      rwa [List.map_map] at this
    have h4 : ((s.late now).map (·.t)).Nodup := ((late_perm s now).map _).nodup_iff.2 (h3.sublist ((List.filter_sublist ..).map _))
    rw [List.nodup_iff_pairwise_ne, List.pairwise_map] at h4
    exact h4
  refine (h1.and h2).imp fun {a b} ⟨h3, h4⟩ => ?_
  simp only [decide_eq_true_eq] at h3
  show a.dl < b.dl ∨ (a.dl = b.dl ∧ a.t < b.t)
  omega
theorem late_nodup {s : PS} (hn : (s.Q.map (·.who)).Nodup) (now : Nat) : ((s.late now).map (·.who)).Nodup :=
  ((late_perm s now).map _).nodup_iff.2 (hn.sublist ((List.filter_sublist ..).map _))
theorem plQ_at {Q : List Qp} (hn : (Q.map (·.who)).Nodup) {x : Qp} (hx : x ∈ Q) : plQ Q x.who = (x.t, x.dl) :=
  getT_in (by rw [List.map_map]; exact hn) (List.mem_map_of_mem (f := fun x : Qp => (x.who, (x.t, x.dl))) hx) _
theorem pair_mem {α : Type} {R : α → α → Prop} : ∀ {l : List α}, l.Pairwise R → l.Pairwise (fun a b => a ∈ l ∧ b ∈ l ∧ R a b)
  | [], _ => .nil
  | x :: r, h => by
    obtain ⟨h1, h2⟩ := List.pairwise_cons.1 h
    refine List.pairwise_cons.2 ⟨fun b hb => ⟨List.mem_cons_self .., List.mem_cons_of_mem _ hb, h1 b hb⟩, (pair_mem h2).imp fun ⟨ha, hb, hab⟩ => ⟨List.mem_cons_of_mem _ ha, List.mem_cons_of_mem _ hb, hab⟩⟩
theorem late_eq {m : PM} {s : PS} (h : PIs m s) {now : Nat} (hne : now ≠ 18446744073709551615) {xs ys : List Int} (h1 : xs.Perm ((wq s.Q).map (·.1))) (h2 : ys.Perm (xs.filter (fun v => !keepW s.Q now v))) (h3 : ys.Pairwise (fun a b => ¬ lateC s.Q b a < 0)) : ys = (s.late now).map (·.who) := by
  have hp : ys.Perm ((s.late now).map (·.who)) := by
    refine h2.trans ((h1.filter _).trans (List.Perm.trans ?_ ((late_perm s now).map _).symm))
    rw [List.map_map, List.filter_map]
    refine List.Perm.of_eq (congrArg _ ?_)
    refine List.filter_congr fun x hx => ?_
    show (!keepW s.Q now x.who) = _
    unfold keepW
    rw [plQ_at h.nd hx, Bool.not_not]
    exact decide_eq_decide.2 ⟨fun e => e.2, fun e => ⟨hne, e⟩⟩
  refine srt_uniq (lt := fun a b => lateC s.Q a b < 0) hp h3 ?_
  rw [List.pairwise_map]
  refine (pair_mem (late_srt h.qk now)).imp fun {a b} ⟨ha, hb, hab⟩ => ?_
  show lateC s.Q a.who b.who < 0
  unfold lateC
  rw [lexI_lt, plQ_at h.nd (late_mem ha).1, plQ_at h.nd (late_mem hb).1]
  have h9 : a.dl < b.dl ∨ (a.dl = b.dl ∧ a.t < b.t) := hab
  dsimp only
  omega
/-! the fold over those who are late -/
theorem tmo_Q : ∀ (l : List Qp) (s : PS), (l.foldl PS.tmo s).Q = s.Q.filter (fun y => decide (∀ x ∈ l, y.who ≠ x.who))
  | [], s => (List.filter_eq_self.2 fun y _ => decide_eq_true (fun x hx => by cases hx)).symm
  | a :: r, s => by
    rw [List.foldl_cons, tmo_Q r]
    show (s.Q.filter _).filter _ = _
    rw [List.filter_filter]
    refine List.filter_congr fun y _ => ?_
    rw [← Bool.decide_and]
    refine decide_eq_decide.2 ⟨fun ⟨h1, h2⟩ x hx => ?_, fun h => ⟨fun x hx => h x (List.mem_cons_of_mem _ hx), h a (List.mem_cons_self ..)⟩⟩
    rcases List.mem_cons.1 hx with rfl | hx
    · exact h2
    · exact h1 x hx
theorem tmo_rest : ∀ (l : List Qp) (s : PS), (l.foldl PS.tmo s).C = s.C ∧ (l.foldl PS.tmo s).keep = s.keep ∧ (l.foldl PS.tmo s).now = s.now ∧ (l.foldl PS.tmo s).E.length = s.E.length + l.length ∧ (l.foldl PS.tmo s).n = s.n
  | [], s => ⟨rfl, rfl, rfl, rfl, rfl⟩
  | a :: r, s => by
    obtain ⟨h1, h2, h3, h4, h5⟩ := tmo_rest r (s.tmo a)
    refine ⟨h1, h2, h3, ?_, h5⟩
    rw [List.foldl_cons, h4]
    show (s.E ++ [_]).length + _ = _
    rw [List.length_append, List.length_cons]; simp; omega
theorem qp_next {l : List Qp} {k : Nat} {x : Qp} (h : l[k]? = some x) (s : PS) : (l.take (k + 1)).foldl PS.tmo s = ((l.take k).foldl PS.tmo s).tmo x := by
  rw [take_next h, List.foldl_append]; rfl
theorem tmo_in {s : PS} (hn : (s.Q.map (·.who)).Nodup) {now k : Nat} {x : Qp} (hx : (s.late now)[k]? = some x) (s' : PS) (hs' : s'.Q = s.Q) : ∃ A B, (((s.late now).take k).foldl PS.tmo s').Q = A ++ x :: B := by
  have h1 := (late_mem (List.mem_of_getElem? hx)).1
  refine List.append_of_mem ?_
  rw [tmo_Q, List.mem_filter, hs']
  refine ⟨h1, decide_eq_true fun y hy e => ?_⟩
  have h2 := late_nodup hn now
  obtain ⟨i, hi⟩ := List.mem_iff_getElem?.1 hy
  have hik : i < k := by have := (List.getElem?_eq_some_iff.1 hi).1; rw [List.length_take] at this; omega
  rw [List.getElem?_take_of_lt hik] at hi
  have e1 : ((s.late now).map (·.who))[i]? = some x.who := by rw [List.getElem?_map, hi, e]; rfl
  have e2 : ((s.late now).map (·.who))[k]? = some x.who := by rw [List.getElem?_map, hx]; rfl
  obtain ⟨l1, q1⟩ := List.getElem?_eq_some_iff.1 e1
  obtain ⟨l2, q2⟩ := List.getElem?_eq_some_iff.1 e2
  have := (List.getElem_inj h2).1 (q1.trans q2.symm)
  omega
/-! those that are old -/
theorem allF_srt (t : Int) : ∀ (C : List Cn) (k : Nat), (allF t k C).Pairwise (· < ·) ∧ ∀ a ∈ allF t k C, (k : Int) ≤ a
  | [], k => ⟨.nil, fun a ha => by cases ha⟩
  | x :: r, k => by
    obtain ⟨h1, h2⟩ := allF_srt t r (k + 1)
    have h3 : ∀ a ∈ allF t (k + 1) r, (k : Int) < a := fun a ha => by have := h2 a ha; omega
    unfold allF
    split
    · refine ⟨List.pairwise_cons.2 ⟨h3, h1⟩, fun a ha => ?_⟩
      rcases List.mem_cons.1 ha with rfl | ha
      · exact Int.le_refl _
      · exact Int.le_of_lt (h3 a ha)
    · exact ⟨h1, fun a ha => Int.le_of_lt (h3 a ha)⟩
theorem split_rev (q : Int → Bool) : ∀ R : List Int, ∃ T D, R = T ++ D ∧ (∀ y ∈ T, q y = true) ∧ (D = [] ∨ ∃ y D', D = y :: D' ∧ q y = false)
  | [] => ⟨[], [], rfl, fun y hy => (by cases hy), .inl rfl⟩
  | a :: r => by
    cases ha : q a with
    | false => exact ⟨[], a :: r, rfl, fun y hy => (by cases hy), .inr ⟨a, r, rfl, ha⟩⟩
    | true =>
      obtain ⟨T, D, h1, h2, h3⟩ := split_rev q r
      refine ⟨a :: T, D, by rw [h1]; rfl, fun y hy => ?_, h3⟩
      rcases List.mem_cons.1 hy with rfl | hy
      · exact ha
      · exact h2 y hy
theorem insR_split (cf : Int → Int → Int) (A : List Int) (x : Int) : ∃ P B, A = P ++ B ∧ (∀ y ∈ B, cf x y < 0) ∧ (P = [] ∨ ∃ P' y, P = P' ++ [y] ∧ ¬ cf x y < 0) ∧ insR cf A x = P ++ x :: B := by
  obtain ⟨T, D, h1, h2, h3⟩ := split_rev (fun y => decide (cf x y < 0)) A.reverse
  have hA : A = D.reverse ++ T.reverse := by rw [← List.reverse_append, ← h1, List.reverse_reverse]
  have hB : ∀ y ∈ T.reverse, cf x y < 0 := fun y hy => of_decide_eq_true (h2 y (List.mem_reverse.1 hy))
  have hP : D.reverse = [] ∨ ∃ P' y, D.reverse = P' ++ [y] ∧ ¬ cf x y < 0 := by
    rcases h3 with rfl | ⟨y, D', rfl, hy⟩
    · exact .inl rfl
    · exact .inr ⟨D'.reverse, y, by simp, of_decide_eq_false hy⟩
  exact ⟨D.reverse, T.reverse, hA, hB, hP, by rw [hA, insR_eq hB hP]⟩
abbrev ltA (C : List Cn) (a b : Int) : Prop := sinceI C a < sinceI C b ∨ (sinceI C a = sinceI C b ∧ a < b)
theorem ageC_lt (C : List Cn) (a b : Int) : ageC C a b < 0 ↔ sinceI C a < sinceI C b := by
  unfold ageC cmpI
  (repeat' split) <;> omega
theorem insR_srt {C : List Cn} {A : List Int} {x : Int} (h : A.Pairwise (ltA C)) (hx : ∀ a ∈ A, a < x) : (insR (ageC C) A x).Pairwise (ltA C) := by
  obtain ⟨P, B, rfl, hB, hP, e⟩ := insR_split (ageC C) A x
  rw [e]
  obtain ⟨h1, h2, h3⟩ := List.pairwise_append.1 h
  have hP2 : ∀ a ∈ P, sinceI C a ≤ sinceI C x := fun a ha => by
    rcases hP with rfl | ⟨P', y, rfl, hy⟩
    · cases ha
    · rw [ageC_lt] at hy
      rcases List.mem_append.1 ha with ha | ha
      · have := (List.pairwise_append.1 h1).2.2 a ha y (by simp)
        have h9 : sinceI C a < sinceI C y ∨ (sinceI C a = sinceI C y ∧ a < y) := this
        omega
      · rw [List.mem_singleton.1 ha]; omega
  refine List.pairwise_append.2 ⟨h1, List.pairwise_cons.2 ⟨fun b hb => .inl ((ageC_lt C x b).1 (hB b hb)), h2⟩, fun a ha b hb => ?_⟩
  rcases List.mem_cons.1 hb with rfl | hb
  · have h5 := hP2 a ha
    have h6 := hx a (List.mem_append_left _ ha)
    show sinceI C a < sinceI C b ∨ (sinceI C a = sinceI C b ∧ a < b)
    omega
  · exact h3 a ha b hb
theorem isL_srt {C : List Cn} : ∀ (l : List Int), l.Pairwise (· < ·) → (isL (ageC C) l).Pairwise (ltA C) := by
  have key : ∀ (l A : List Int), l.Pairwise (· < ·) → A.Pairwise (ltA C) → (∀ a ∈ A, ∀ b ∈ l, a < b) → (l.foldl (insR (ageC C)) A).Pairwise (ltA C) := by
    intro l
    induction l with
    | nil => intro A _ h _; exact h
    | cons x r ih =>
      intro A hl hA hx
      obtain ⟨h1, h2⟩ := List.pairwise_cons.1 hl
      refine ih _ h2 (insR_srt hA fun a ha => hx a ha x (List.mem_cons_self ..)) fun a ha b hb => ?_
      rcases List.mem_cons.1 ((insR_perm (ageC C) A x).mem_iff.1 ha) with rfl | ha
      · exact h1 b hb
      · exact hx a ha b (List.mem_cons_of_mem _ hb)
  intro l hl
  exact key l [] hl .nil (fun a ha => by cases ha)
theorem old_eq (s : PS) (now : Nat) : isL (ageC s.C) ((allI 3 s.C).filter (fun a => !young s now a)) = s.old now := by
  have h1 := isL_srt (C := s.C) _ ((allF_srt 3 s.C 0).1.filter (fun a => !young s now a))
  refine (srt_uniq (lt := ltA s.C) ?_ ?_ h1).symm
  · exact (List.mergeSort_perm _ _).trans (isL_perm _ _).symm
  · have h2 : (s.old now).Pairwise (fun a b => decide (sinceI s.C a < sinceI s.C b ∨ (sinceI s.C a = sinceI s.C b ∧ a ≤ b)) = true) := List.pairwise_mergeSort (fun a b c h1 h2 => by simp only [decide_eq_true_eq] at *; omega) (fun a b => by simp only [Bool.or_eq_true, decide_eq_true_eq]; omega) _
    refine h2.imp fun {a b} h3 h4 => ?_
    simp only [decide_eq_true_eq] at h3
    have h5 : sinceI s.C b < sinceI s.C a ∨ (sinceI s.C b = sinceI s.C a ∧ b < a) := h4
    omega
theorem old_mem {s : PS} {now : Nat} {a : Int} (h : a ∈ s.old now) : a ∈ allI 3 s.C ∧ young s now a = false := by
  have := (List.mergeSort_perm _ _).mem_iff.1 h
  rw [List.mem_filter] at this
  exact ⟨this.1, by simpa using this.2⟩
theorem old_len (s : PS) (now : Nat) : (s.old now).length ≤ (allI 3 s.C).length := by
  have := (List.mergeSort_perm ((allI 3 s.C).filter (fun a => !young s now a)) (fun a b => decide (sinceI s.C a < sinceI s.C b ∨ (sinceI s.C a = sinceI s.C b ∧ a ≤ b)))).length_eq
  have h2 := List.length_filter_le (fun a => !young s now a) (allI 3 s.C)
  unfold PS.old; omega
theorem next_E (s : PS) : s.next.E.length ≤ s.E.length + 1 := by
  unfold PS.next
  split
  · omega
  · split
    · show (s.E ++ [_]).length ≤ _
      rw [List.length_append]; simp
    · omega
theorem shut_E (s : PS) (c : Int) : (s.shut c).E.length ≤ s.E.length + 2 := by
  have := next_E ((s.tell 5 (-1) c).set c.toNat ⟨0, 0, 0⟩)
  have h2 : ((s.tell 5 (-1) c).set c.toNat ⟨0, 0, 0⟩).E.length = s.E.length + 1 := by
    show (s.E ++ [_]).length = _
    rw [List.length_append]; rfl
  show ((s.tell 5 (-1) c).set c.toNat ⟨0, 0, 0⟩).next.E.length ≤ _
  omega
theorem shuts_E : ∀ (l : List Int) (s : PS), (l.foldl PS.shut s).E.length ≤ s.E.length + 2 * l.length
  | [], s => by simp
  | c :: r, s => by
    have h1 := shuts_E r (s.shut c)
    have h2 := shut_E s c
    rw [List.foldl_cons, List.length_cons]; omega
theorem shut_next {l : List Int} {k : Nat} {c : Int} (h : l[k]? = some c) (s : PS) : (l.take (k + 1)).foldl PS.shut s = ((l.take k).foldl PS.shut s).shut c := by
  rw [take_next h, List.foldl_append]; rfl
theorem adv_no {s : PS} {now : Nat} (h : s.may true now ≠ 0) : s.advance now = s := by unfold PS.advance; rw [if_pos h]
theorem adv_ok {s : PS} {now : Nat} (h : s.may true now = 0) : s.advance now = ((s.adv1 now).old now).foldl PS.shut (s.adv1 now) := by unfold PS.advance; rw [if_neg (by rw [h]; decide)]
structure AdW where
  k : Nat
  m : PM
end Go.Proofs.Yteofigbgdbpjgaa
end
section
namespace Go.Proofs.Yteofigbgdbpjgaa
open Go.Shelf Go.RowKit Go.Lib Go.Sort
/-- A world with the same blocks and new ones behind them. -/
theorem hw_grow {Hc : Heap} {W W' : World} (h : HOK Hc W) (c : HW Hc W Hc W') : ∃ q os', W' = grow (W.drewN q) os' := by
  have hb := HW.belOf h c
  refine ⟨W'.drawn - W.drawn, W'.heap.extract W.heap.size W'.heap.size, ?_⟩
  have hheap : W'.heap = W.heap ++ W'.heap.extract W.heap.size W'.heap.size := by
    apply Array.ext_getElem?
    intro k
    rw [Array.getElem?_append]
    by_cases hk : k < W.heap.size
    · rw [if_pos hk]; exact hb.block k hk
    · rw [if_neg hk, Array.getElem?_extract]
      by_cases h2 : k < W'.heap.size
      · rw [if_pos (by omega)]; congr 1; omega
      · rw [if_neg (by omega), Array.getElem?_eq_none (by omega)]
  have hdr := c.dr
  obtain ⟨hp, tp, dr, os, out⟩ := W'
  obtain ⟨hp0, tp0, dr0, os0, out0⟩ := W
  have e1 := c.os
  have e2 := c.tape
  have e3 := c.output
  dsimp only at e1 e2 e3 hdr hheap
  subst e1 e2 e3
  simp only [grow, World.drewN, World.mk.injEq, true_and, and_true]
  exact ⟨hheap, by omega⟩
section
variable {α : Type} [Inhabited α] {enc : α → Value}
theorem holds_of {w : World} {b : Nat} {e : TypeId} {d : List α} {tl : List Value} (hb : w.heap[b]? = some (cl (d.map enc ++ tl) e)) : Holds enc w b 0 d.toArray := fun j hj => by
  have hj' : j < d.length := by simpa using hj
  have hg : (d.map enc ++ tl)[j]? = some (enc d[j]) := by rw [List.getElem?_append_left (by simpa using hj'), List.getElem?_map, List.getElem?_eq_getElem hj']; rfl
  refine ⟨?_, ?_⟩
  · simp only [World.cell?, hb, cl, Nat.zero_add, List.getElem?_toArray, hg]
    simp [hj']
  · simp [World.frozen?, hb, cl]
theorem sw_hw {Hc : Heap} {w : World} {b : Nat} {e : TypeId} {d d' : List α} {tl : List Value} (hw : HOK (⟨some b, cl (d.map enc ++ tl) e⟩ :: Hc) w) (hl : d'.length = d.length) (m : Nat) (os : Array Obj) :
    HW (⟨some b, cl (d.map enc ++ tl) e⟩ :: Hc) w (⟨some b, cl (d'.map enc ++ tl) e⟩ :: Hc) (sortWorld enc w b 0 m d'.toArray os) := by
  have hb : w.heap[b]? = some (cl (d.map enc ++ tl) e) := by
    have := hw.ok _ (List.mem_cons_self ..)
    simpa [Ent.ok] using this
  have hlt := (Array.getElem?_eq_some_iff.1 hb).1
  have hput : putCells enc 0 d'.toArray (d.map enc ++ tl).toArray = (d'.map enc ++ tl).toArray := by
    apply Array.ext_getElem?
    intro k
    simp only [putCells, Array.getElem?_mapIdx, List.getElem?_toArray]
    by_cases hk : k < d'.length
    · rw [List.getElem?_append_left (by simpa using (by omega : k < d.length)), List.getElem?_append_left (by simpa using hk), List.getElem?_map, List.getElem?_map, List.getElem?_eq_getElem (by omega : k < d.length), List.getElem?_eq_getElem hk]
      simp [hk]
    · rw [List.getElem?_append_right (by simp; omega), List.getElem?_append_right (by simp; omega)]
      simp only [List.length_map, hl]
      cases tl[k - d.length]? with
      | none => rfl
      | some v => simp [hk]
  have hsame : (sortWorld enc w b 0 m d'.toArray os).heap[b]? = some (cl (d'.map enc ++ tl) e) := by
    simp only [sortWorld, grow, putRow, mapBlock, Sort.ahead, Array.getElem?_append, Array.size_modify, hlt, if_true, Array.getElem?_modify, hb, Option.map_some, cl, onCells]
    rw [hput]
  have hother : ∀ k, k < w.heap.size → k ≠ b → (sortWorld enc w b 0 m d'.toArray os).heap[k]? = w.heap[k]? := fun k hk hne => by
    simp only [sortWorld, grow, putRow, mapBlock, Sort.ahead, Array.getElem?_append, Array.size_modify, hk, if_true, Array.getElem?_modify, if_neg (Ne.symm hne)]
  have hnd := hw.nodup
  simp only [keys, List.filterMap_cons, List.nodup_cons] at hnd
  refine ⟨⟨by simp only [keys, List.filterMap_cons, List.nodup_cons]; exact hnd, fun x hx => ?_⟩, rfl, rfl, rfl, ?_, fun k hk hn => ?_, fun k hk => .inl (by simpa [keys] using hk), ?_⟩
  · rcases List.mem_cons.1 hx with rfl | hx2
    · simpa [Ent.ok] using hsame
    · have h1 := hw.ok x (List.mem_cons_of_mem _ hx2)
      cases hxb : x.b with
      | none => simp only [Ent.ok, hxb] at h1 ⊢; exact h1
      | some c =>
        simp only [Ent.ok, hxb] at h1 ⊢
        have hne : c ≠ b := fun e => hnd.1 (by subst e; exact List.mem_filterMap.2 ⟨x, hx2, hxb⟩)
        rw [hother c (Array.getElem?_eq_some_iff.1 h1).1 hne]; exact h1
  · simp [sortWorld, grow, putRow, mapBlock, Sort.ahead]
  · exact hother k hk (fun e => hn (by subst e; simp [keys]))
  · simp [sortWorld, grow, putRow, mapBlock, Sort.ahead]
theorem sort_ok {P : Program} {ρ : Ren} (L : SlLaysF.n6 P ρ) (f : Nat) (hf : ρ.f 6 = f) (h1 : OneCell enc) (cf : α → α → Int) (hO : SWO (ltOf cf)) (g : Nat) (cb : List Value) (Hc : Heap)
    (hcmp : ∀ x y, Spec P g ([enc x, enc y] ++ cb) Hc (fun r H' => r = .int .i64 (cf x y) ∧ H' = Hc)) (hen : Enters P f) (b n c : Nat) (e : TypeId) (d : List α) (tl : List Value) (hn : d.length = n) (hsz : n < 4611686018427387904) :
    Spec P f [slV (some b) n c, .func (.func g) #[] cb.toArray] (⟨some b, cl (d.map enc ++ tl) e⟩ :: Hc)
      (fun r H' => ∃ d' : List α, r = .tuple #[] ∧ d'.Perm d ∧ d'.Pairwise (fun x y => ltOf cf y x = false) ∧ H' = ⟨some b, cl (d'.map enc ++ tl) e⟩ :: Hc) := by
  subst hf hn
  refine ⟨hen, fun w hw => callsIn_wide.2 ?_⟩
  have hb : w.heap[b]? = some (cl (d.map enc ++ tl) e) := by
    have := hw.ok _ (List.mem_cons_self ..)
    simpa [Ent.ok] using this
  have hlt := (Array.getElem?_eq_some_iff.1 hb).1
  have hc : CmpLays1 P g cb.toArray enc cf b 0 d.toArray.size w := fun m os dk hdk x y => by
    have hw2 := (sw_hw (d' := dk.toList) hw (by simpa using hdk) m os)
    simp only [Array.toArray_toList] at hw2
    have hok : HOK Hc (sortWorld enc w b 0 m dk os) := (hw2.perm (by simpa using (List.perm_append_comm (l₁ := [_]) (l₂ := Hc)))).left.hok
    have := callsIn_wide.1 ((hcmp x y).calls _ hok)
    rw [show (#[enc x, enc y] ++ cb.toArray : Array Value) = ([enc x, enc y] ++ cb).toArray from by simp]
    refine this.mono fun e w' ⟨v, H', e1, ⟨e2, e3⟩, e4⟩ => ⟨by rw [e1, e2], ?_⟩
    subst e3
    exact hw_grow hok e4
  have := Any.slices_SortFunc L enc h1 cf hO g cb.toArray b 0 c d.toArray w (hcmp default default).enters hc (holds_of hb) hlt (by simpa using hsz)
  refine this.mono fun e w' ⟨he, d', m, os, hp, hs, hwe⟩ => ?_
  obtain ⟨hs1, _, hp2⟩ := hp
  have hsz2 : d'.size = d.length := by simpa using hs1
  refine ⟨_, _, he, ⟨d'.toList, rfl, ?_, ?_, rfl⟩, ?_⟩
  · have e1 : d'.extract 0 d.toArray.size = d' := by simp [← hsz2]
    have e2 : d.toArray.extract 0 d.toArray.size = d.toArray := by simp
    rw [e1, e2] at hp2
    simpa using hp2
  · rw [List.pairwise_iff_getElem]
    intro i j hi hj hij
    have := hs i j (Nat.zero_le _) hij (by simpa [hsz2] using hj)
    have hi' : i < d'.size := by simpa using hi
    have hj' : j < d'.size := by simpa using hj
    simpa [hi', hj'] using this
  · rw [hwe]
    have := sw_hw (d' := d'.toList) hw (by simpa using hsz2) m os
    simpa only [Array.toArray_toList] using this
end
end Go.Proofs.Yteofigbgdbpjgaa
end
section
set_option linter.unusedVariables false
set_option maxRecDepth 20000
namespace Go.Proofs.Yteofigbgdbpjgaa
open Go.Shelf
def lysF_ren : Go.Shelf.Ren := ⟨fun | 6 => 51 | 14 => 77 | 15 => 78 | 20 => 90 | 21 => 91 | 22 => 92 | 23 => 93 | 24 => 94 | 25 => 95 | 26 => 96 | 27 => 97 | 28 => 98 | 29 => 99 | 46 => 101 | 47 => 102 | 48 => 103 | 49 => 104 | 50 => 105 | 57 => 107 | n => n, fun | 0 => 0 | 3 => 3 | 4 => 4 | 5 => 5 | 9 => 9 | 22 => 78 | 24 => 3 | 25 => 95 | 39 => 42 | 45 => 152 | 46 => 153 | 50 => 81 | 53 => 159 | 55 => 27 | 66 => 161 | 70 => 165 | 76 => 167 | 77 => 168 | n => n, fun n => n⟩
theorem lysF : SlLaysF.n6 Try.prog lysF_ren := {
  mixed := by kernel_rfl,
  f6 := ⟨Try.f51.name, by decide, Try.func51.trans (congrArg some (by kernel_rfl))⟩,
  f14 := ⟨Try.f77.name, by decide, Try.func77.trans (congrArg some (by kernel_rfl))⟩,
  f15 := Try.func78.trans (congrArg some (by kernel_rfl)),
  f20 := ⟨Try.f90.name, by decide, Try.func90.trans (congrArg some (by kernel_rfl))⟩,
  f21 := ⟨Try.f91.name, by decide, Try.func91.trans (congrArg some (by kernel_rfl))⟩,
  f22 := ⟨Try.f92.name, by decide, Try.func92.trans (congrArg some (by kernel_rfl))⟩,
  f23 := ⟨Try.f93.name, by decide, Try.func93.trans (congrArg some (by kernel_rfl))⟩,
  f24 := ⟨Try.f94.name, by decide, Try.func94.trans (congrArg some (by kernel_rfl))⟩,
  f25 := ⟨Try.f95.name, by decide, Try.func95.trans (congrArg some (by kernel_rfl))⟩,
  f26 := ⟨Try.f96.name, by decide, Try.func96.trans (congrArg some (by kernel_rfl))⟩,
  f27 := ⟨Try.f97.name, by decide, Try.func97.trans (congrArg some (by kernel_rfl))⟩,
  f28 := Try.func98.trans (congrArg some (by kernel_rfl)),
  f29 := Try.func99.trans (congrArg some (by kernel_rfl)),
  f46 := ⟨Try.f101.name, by decide, Try.func101.trans (congrArg some (by kernel_rfl))⟩,
  f47 := Try.func102.trans (congrArg some (by kernel_rfl)),
  f48 := Try.func103.trans (congrArg some (by kernel_rfl)),
  f49 := ⟨Try.f104.name, by decide, Try.func104.trans (congrArg some (by kernel_rfl))⟩,
  f50 := ⟨Try.f105.name, by decide, Try.func105.trans (congrArg some (by kernel_rfl))⟩,
  f57 := ⟨Try.f107.name, by decide, Try.func107.trans (congrArg some (by kernel_rfl))⟩,
  t0 := Try.underlying0,
  a0 := Try.isAgg0,
  z0 := Try.sizeOf0,
  v0 := Try.zeroValue0,
  t3 := Try.underlying3,
  a3 := Try.isAgg3,
  z3 := Try.sizeOf3,
  v3 := Try.zeroValue3,
  t4 := Try.underlying4,
  a4 := Try.isAgg4,
  z4 := Try.sizeOf4,
  v4 := Try.zeroValue4,
  t5 := Try.underlying5,
  a5 := Try.isAgg5,
  z5 := Try.sizeOf5,
  v5 := Try.zeroValue5,
  t9 := Try.underlying9,
  a9 := Try.isAgg9,
  z9 := Try.sizeOf9,
  v9 := Try.zeroValue9,
  t22 := Try.underlying78,
  a22 := Try.isAgg78,
  z22 := Try.sizeOf78,
  v22 := Try.zeroValue78,
  a24 := Try.isAgg3,
  z24 := Try.sizeOf3,
  t25 := Try.underlying95,
  a25 := Try.isAgg95,
  z25 := Try.sizeOf95,
  v25 := Try.zeroValue95,
  t39 := Try.underlying42,
  a39 := Try.isAgg42,
  z39 := Try.sizeOf42,
  v39 := Try.zeroValue42,
  t45 := Try.underlying152,
  a45 := Try.isAgg152,
  z45 := Try.sizeOf152,
  v45 := Try.zeroValue152,
  t46 := Try.underlying153,
  a46 := Try.isAgg153,
  z46 := Try.sizeOf153,
  v46 := Try.zeroValue153,
  t50 := Try.underlying81,
  a50 := Try.isAgg81,
  z50 := Try.sizeOf81,
  v50 := Try.zeroValue81,
  t53 := Try.underlying159,
  a53 := Try.isAgg159,
  z53 := Try.sizeOf159,
  v53 := Try.zeroValue159,
  t55 := Try.underlying27,
  a55 := Try.isAgg27,
  z55 := Try.sizeOf27,
  v55 := Try.zeroValue27,
  t66 := Try.underlying161,
  a66 := Try.isAgg161,
  z66 := Try.sizeOf161,
  v66 := Try.zeroValue161,
  t70 := Try.underlying165,
  a70 := Try.isAgg165,
  z70 := Try.sizeOf165,
  v70 := Try.zeroValue165,
  t76 := Try.underlying167,
  a76 := Try.isAgg167,
  z76 := Try.sizeOf167,
  v76 := Try.zeroValue167,
  t77 := Try.underlying168,
  a77 := Try.isAgg168,
  z77 := Try.sizeOf168,
  v77 := Try.zeroValue168 }
end Go.Proofs.Yteofigbgdbpjgaa
end
section
namespace Go.Proofs.Yteofigbgdbpjgaa
open Go.Shelf Go.RowKit Go.Lib Go.Sort
section
variable {α : Type} [Inhabited α] {enc : α → List Value} {k : Nat}
end
theorem sort_none {P : Program} {ρ : Ren} (L : SlLaysF0.n6 P ρ) (f : Nat) (hf : ρ.f 6 = f) (hen : Enters P f) (ob : Option Nat) (c : Nat) (fv : Value) : Spec P f [slV ob 0 c, fv] [] (fun r H' => r = .tuple #[] ∧ H' = []) := by
  subst hf
  refine ⟨hen, fun w hw => callsIn_wide.2 ?_⟩
  have h : ∀ p, Calls P (ρ.f 6) #[.slice p 0 c, fv] w fun e w' => e = .returned (.tuple #[]) ∧ w' = w := fun p => AnyF.slices_SortFunc_none L p c fv w
  cases ob with
  | none => exact (h none).mono fun e w' ⟨e1, e2⟩ => ⟨_, _, e1, ⟨rfl, rfl⟩, by rw [e2]; exact HW.start hw⟩
  | some b => exact (h (some ⟨b, 0, none⟩)).mono fun e w' ⟨e1, e2⟩ => ⟨_, _, e1, ⟨rfl, rfl⟩, by rw [e2]; exact HW.start hw⟩
end Go.Proofs.Yteofigbgdbpjgaa
end
section
set_option linter.unusedVariables false
set_option maxRecDepth 20000
namespace Go.Proofs.Yteofigbgdbpjgaa
open Go.Shelf
def lysZ_ren : Go.Shelf.Ren := ⟨fun | 6 => 51 | 14 => 77 | 15 => 78 | 20 => 90 | 21 => 91 | 22 => 92 | 23 => 93 | 24 => 94 | 25 => 95 | 26 => 96 | 27 => 97 | 28 => 98 | 29 => 99 | 46 => 101 | 47 => 102 | 48 => 103 | 49 => 104 | 50 => 105 | 57 => 107 | n => n, fun | 0 => 0 | 3 => 3 | 4 => 4 | 5 => 5 | 9 => 9 | 22 => 78 | 24 => 3 | 25 => 95 | 39 => 42 | 45 => 152 | 46 => 153 | 50 => 81 | 53 => 159 | 55 => 27 | 66 => 161 | 70 => 165 | 76 => 167 | 77 => 168 | n => n, fun n => n⟩
theorem lysZ : SlLaysF0.n6 Try.prog lysZ_ren := {
  mixed := by kernel_rfl,
  f6 := ⟨Try.f51.name, by decide, Try.func51.trans (congrArg some (by kernel_rfl))⟩,
  f14 := ⟨Try.f77.name, by decide, Try.func77.trans (congrArg some (by kernel_rfl))⟩,
  f15 := Try.func78.trans (congrArg some (by kernel_rfl)),
  f20 := ⟨Try.f90.name, by decide, Try.func90.trans (congrArg some (by kernel_rfl))⟩,
  f21 := ⟨Try.f91.name, by decide, Try.func91.trans (congrArg some (by kernel_rfl))⟩,
  f22 := ⟨Try.f92.name, by decide, Try.func92.trans (congrArg some (by kernel_rfl))⟩,
  f23 := ⟨Try.f93.name, by decide, Try.func93.trans (congrArg some (by kernel_rfl))⟩,
  f24 := ⟨Try.f94.name, by decide, Try.func94.trans (congrArg some (by kernel_rfl))⟩,
  f25 := ⟨Try.f95.name, by decide, Try.func95.trans (congrArg some (by kernel_rfl))⟩,
  f26 := ⟨Try.f96.name, by decide, Try.func96.trans (congrArg some (by kernel_rfl))⟩,
  f27 := ⟨Try.f97.name, by decide, Try.func97.trans (congrArg some (by kernel_rfl))⟩,
  f28 := Try.func98.trans (congrArg some (by kernel_rfl)),
  f29 := Try.func99.trans (congrArg some (by kernel_rfl)),
  f46 := ⟨Try.f101.name, by decide, Try.func101.trans (congrArg some (by kernel_rfl))⟩,
  f47 := Try.func102.trans (congrArg some (by kernel_rfl)),
  f48 := Try.func103.trans (congrArg some (by kernel_rfl)),
  f49 := ⟨Try.f104.name, by decide, Try.func104.trans (congrArg some (by kernel_rfl))⟩,
  f50 := ⟨Try.f105.name, by decide, Try.func105.trans (congrArg some (by kernel_rfl))⟩,
  f57 := ⟨Try.f107.name, by decide, Try.func107.trans (congrArg some (by kernel_rfl))⟩,
  t0 := Try.underlying0,
  a0 := Try.isAgg0,
  z0 := Try.sizeOf0,
  v0 := Try.zeroValue0,
  t3 := Try.underlying3,
  a3 := Try.isAgg3,
  z3 := Try.sizeOf3,
  v3 := Try.zeroValue3,
  t4 := Try.underlying4,
  a4 := Try.isAgg4,
  z4 := Try.sizeOf4,
  v4 := Try.zeroValue4,
  t5 := Try.underlying5,
  a5 := Try.isAgg5,
  z5 := Try.sizeOf5,
  v5 := Try.zeroValue5,
  t9 := Try.underlying9,
  a9 := Try.isAgg9,
  z9 := Try.sizeOf9,
  v9 := Try.zeroValue9,
  t22 := Try.underlying78,
  a22 := Try.isAgg78,
  z22 := Try.sizeOf78,
  v22 := Try.zeroValue78,
  t25 := Try.underlying95,
  a25 := Try.isAgg95,
  z25 := Try.sizeOf95,
  v25 := Try.zeroValue95,
  t39 := Try.underlying42,
  a39 := Try.isAgg42,
  z39 := Try.sizeOf42,
  v39 := Try.zeroValue42,
  t45 := Try.underlying152,
  a45 := Try.isAgg152,
  z45 := Try.sizeOf152,
  v45 := Try.zeroValue152,
  t46 := Try.underlying153,
  a46 := Try.isAgg153,
  z46 := Try.sizeOf153,
  v46 := Try.zeroValue153,
  t50 := Try.underlying81,
  a50 := Try.isAgg81,
  z50 := Try.sizeOf81,
  v50 := Try.zeroValue81,
  t53 := Try.underlying159,
  a53 := Try.isAgg159,
  z53 := Try.sizeOf159,
  v53 := Try.zeroValue159,
  t55 := Try.underlying27,
  a55 := Try.isAgg27,
  z55 := Try.sizeOf27,
  v55 := Try.zeroValue27,
  t66 := Try.underlying161,
  a66 := Try.isAgg161,
  z66 := Try.sizeOf161,
  v66 := Try.zeroValue161,
  t70 := Try.underlying165,
  a70 := Try.isAgg165,
  z70 := Try.sizeOf165,
  v70 := Try.zeroValue165,
  t76 := Try.underlying167,
  a76 := Try.isAgg167,
  z76 := Try.sizeOf167,
  v76 := Try.zeroValue167,
  t77 := Try.underlying168,
  a77 := Try.isAgg168,
  z77 := Try.sizeOf168,
  v77 := Try.zeroValue168 }
end Go.Proofs.Yteofigbgdbpjgaa
end
section
set_option linter.unusedVariables false
set_option maxRecDepth 20000
set_option maxHeartbeats 1000000
namespace Go.Proofs.Yteofigbgdbpjgaa
open Go.Shelf Go.RowKit Go.Lib Go.Sort
theorem ivs_map (l : List Int) : ivs l = l.map (fun v => Value.int .i64 v) := by
  unfold ivs
  induction l with
  | nil => rfl
  | cons a r ih => rw [List.flatMap_cons, ih]; rfl
theorem lateC_swo (Q : List Qp) : Go.Sort.SWO (ltOf (lateC Q)) := by
  refine ⟨fun x => ?_, fun x y z h1 h2 => ?_, fun x y z h1 h2 => ?_⟩
  · simp only [ltOf, decide_eq_false_iff_not, lateC, lexI_lt]; omega
  · simp only [ltOf, decide_eq_true_eq, lateC, lexI_lt] at *; omega
  · simp only [ltOf, decide_eq_false_iff_not, lateC, lexI_lt] at *; omega
theorem psort_ok {m : PM} {s : PS} (h : PIs m s) (b2 : Nat) (l : List Int) (hl : l.length ≤ 1000000) (o : Option Nat) (c : Nat) (tl : List Value) (own : Own o l.length c 1 (ivs l) tl) : Spec Try.prog 51 [slV o l.length c, .func (.func 52) #[] #[.pointer (some ⟨b2, 0, none⟩)]] (⟨o, cl (ivs l ++ tl) 3⟩ :: [⟨some b2, cl [ptrP m.p] 23⟩, poP m s, poW m])
    (fun r H' => ∃ l' : List Int, r = .tuple #[] ∧ l'.Perm l ∧ l'.Pairwise (fun a b => ¬ lateC s.Q b a < 0) ∧ H' = ⟨o, cl (ivs l' ++ tl) 3⟩ :: [⟨some b2, cl [ptrP m.p] 23⟩, poP m s, poW m]) := by
  by_cases h0 : l = []
  · subst h0
    have hn := sort_none lysZ 51 rfl (Enters.mk Try.func51 rfl rfl) o c (.func (.func 52) #[] #[.pointer (some ⟨b2, 0, none⟩)])
    exact (hn.fr (⟨o, cl (ivs [] ++ tl) 3⟩ :: [⟨some b2, cl [ptrP m.p] 23⟩, poP m s, poW m])).mono fun r H' ⟨H1, ⟨e1, e2⟩, e3⟩ => ⟨[], e1, .refl _, .nil, by rw [e3, e2]; rfl⟩
  · obtain ⟨b, rfl⟩ := own.some_of (List.length_pos_iff.2 h0)
    have hs := sort_ok (enc := fun v : Int => Value.int .i64 v) lysF 51 rfl (fun _ => rfl) (lateC s.Q) (lateC_swo s.Q) 52 [.pointer (some ⟨b2, 0, none⟩)] [⟨some b2, cl [ptrP m.p] 23⟩, poP m s, poW m] (fun x y => padv2_ok h b2 x y) (Enters.mk Try.func51 rfl rfl) b l.length c 3 l tl rfl (by omega)
    rw [← ivs_map] at hs
    refine hs.mono fun r H' ⟨d', e1, e2, e3, e4⟩ => ⟨d', e1, e2, e3.imp fun {a b} h => by simpa only [ltOf, decide_eq_false_iff_not] using h, by rw [ivs_map]; exact e4⟩
end Go.Proofs.Yteofigbgdbpjgaa
end
