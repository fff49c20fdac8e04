/-
  Chapter 49 (proxy), part IslB: contracts of functions that the laws call, each for the heap it names.
-/
import Derived.Test.YtelmlkdibcdebaaGreatY03
import Derived.Test.YtelmlkdibcdebaaGreatRows
section
set_option linter.unusedVariables false
set_option maxRecDepth 20000
set_option maxHeartbeats 1000000
namespace Go.Proofs.YtelmlkdibcdebaaGreat
theorem pput_true {m : PM} {s : PS} (h : PIs m s) (hE : s.E.length ≤ 10000) (c : Int) (now : Nat) (hb : now ≤ 18446744073709551615) : Spec Tryz.prog 40 [ptrP m.p, .int .i64 c, .bool true, .int .u64 (now : Int)] (poH m s) (fun r H' => ∃ m', r = .int .i64 (s.inE c 2 now) ∧ H' = poH m' (s.put c true now) ∧ m'.p = m.p ∧ PIs m' (s.put c true now)) := by
  refine Spec.of (E := [(0, ptrP m.p), (1, .int .i64 c), (2, .bool true), (3, .int .u64 (now : Int))]) Tryz.func40 rfl (by kernel_rfl) Tryz.ntmps40 rfl rfl (fun w => ?_)
  refine WC_seq ?_
  refine WC_region ?_
  refine WL_val rfl rfl rfl (R_assign rfl rfl) ?_
  refine WL_nil ?_
  refine WQ_code ?_
  refine WC_seq ?_
  refine WC_seq ?_
  refine WC_region ?_
  refine WL_val rfl rfl rfl (R_move rfl rfl) ?_
  refine WL_val rfl rfl rfl (R_move rfl rfl) ?_
  refine WL_val rfl rfl rfl (R_move rfl rfl) ?_
  refine WL_do rfl rfl rfl (D_call (pin_ok h hE c 2 now) rfl rfl rfl rfl (pqZ)) ?_
  rintro _ _ ⟨_, ⟨rfl, rfl⟩, rfl⟩
  refine WL_val rfl rfl rfl (R_assign rfl rfl) ?_
  refine WL_nil ?_
  refine WQ_code ?_
  refine WC_seq ?_
  refine WC_region ?_
  refine WL_val rfl rfl rfl (R_move rfl rfl) ?_
  refine WL_val rfl rfl rfl (R_neq rfl rfl rfl) ?_
  refine WL_nil ?_
  refine WQ_code ?_
  refine WC_dec rfl (fun c1 => ?_) (fun c1 => ?_)
  · have hm := c1
    refine WC_seq ?_
    refine WC_region ?_
    refine WL_val rfl rfl rfl (R_move rfl rfl) ?_
    refine WL_val rfl rfl rfl (R_assign rfl rfl) ?_
    refine WL_nil ?_
    refine WQ_code ?_
    refine WC_ret ?_
    refine WQ_ret rfl rfl (.cons (.tmp rfl) .nil) rfl (by
        exact ⟨m, rfl, by rw [put_no hm], rfl, by rw [put_no hm]; exact h⟩) (pqZ)
  · have hm : s.inE c 2 now = 0 := Decidable.byContradiction c1
    obtain ⟨k, x, rfl, hk, hx, hst, hle, hne⟩ := inE_zero hm
    refine WC_skip ?_
    refine WQ_code ?_
    refine WC_seq ?_
    refine WC_region ?_
    refine WL_val rfl rfl rfl (R_move rfl rfl) ?_
    refine WL_val rfl rfl rfl (R_move rfl rfl) ?_
    refine WL_val rfl rfl rfl (R_nilCheck rfl rfl) ?_
    refine WL_val rfl rfl rfl (R_fieldAddr rfl fa136_3 rfl) ?_
    refine WL_do0 rfl rfl (D_store (vs := [_]) rfl Tryz.sizeOf25 rfl rfl rfl rfl rfl (plZ) (by exact pc_nowr m s)) ?_
    rintro _ _ rfl
    rw [pc_now]
    have h0 := h.at_ (now := now) hle (by omega)
    refine WL_nil ?_
    refine WQ_code ?_
    refine WC_seq ?_
    refine WC_block ?_
    refine WC_seq ?_
    refine WC_region ?_
    refine WL_val rfl rfl rfl (R_move rfl rfl) ?_
    refine WL_val rfl rfl rfl (R_move rfl rfl) ?_
    refine WL_val rfl rfl rfl (R_move rfl rfl) ?_
    refine WL_val rfl rfl rfl (R_nilCheck rfl rfl) ?_
    refine WL_val rfl rfl rfl (R_fieldAddr rfl fa136_5 rfl) ?_
    refine WL_val rfl rfl rfl (R_load (v := ptrQ m.q) rfl sc127 rfl (mmZ) (pc_t h0.cl rfl 0)) ?_
    refine WL_do rfl rfl rfl (D_call (qlen_ok m.q m.qm (fq s.Q) s.n m.qes m.qmc h.qk h.qM) rfl rfl rfl rfl (pqZ)) ?_
    rintro _ _ ⟨_, ⟨rfl, rfl⟩, rfl⟩
    refine WL_val rfl rfl rfl (R_gtr rfl rfl rfl) ?_
    refine WL_val rfl rfl rfl (R_pickT rfl rfl rfl) ?_
    refine WL_val rfl rfl rfl (R_assign rfl rfl) ?_
    refine WL_nil ?_
    refine WQ_code ?_
    refine WC_dec rfl (fun c2 => ?_) (fun c2 => ?_)
    · obtain ⟨xq, rq, hQ⟩ : ∃ x r, s.Q = x :: r := by cases hq9 : s.Q with | nil => exact absurd c2 (by show ¬ ((fq s.Q).length : Int) > 0; rw [hq9]; simp) | cons x r => exact ⟨x, r, rfl⟩
      refine WC_seq ?_
      refine WC_region ?_
      refine WL_val rfl rfl rfl (R_move rfl rfl) ?_
      refine WL_do rfl rfl rfl (D_call (pfirst_ok h0 (x := xq) (r := rq) hQ) rfl rfl rfl rfl (pqZ)) ?_
      rintro _ _ ⟨_, ⟨m1, rfl, rfl, hp1, h1⟩, rfl⟩
      rw [← hp1]
      refine WL_val rfl rfl rfl (R_move rfl rfl) ?_
      refine WL_val rfl rfl rfl (R_extract rfl rfl rfl) ?_
      refine WL_val rfl rfl rfl (R_extract rfl rfl rfl) ?_
      refine WL_val rfl rfl rfl (R_assign rfl rfl) ?_
      refine WL_val rfl rfl rfl (R_assign rfl rfl) ?_
      refine WL_nil ?_
      refine WQ_code ?_
      refine WC_region ?_
      refine WL_val rfl rfl rfl (R_move rfl rfl) ?_
      refine WL_val rfl rfl rfl (R_move rfl rfl) ?_
      refine WL_val rfl rfl rfl (R_move rfl rfl) ?_
      refine WL_do rfl rfl rfl (D_call (ptell_ok h1 1 xq.who (k : Int) (by show s.E.length ≤ _; omega)) rfl rfl rfl rfl (pqZ)) ?_
      rintro _ _ ⟨_, ⟨ob, ek, ec, epre, etl, rfl, rfl, hoS⟩, rfl⟩
      refine WL_nil ?_
      refine WQ_code ?_
      refine WC_seq ?_
      refine WC_region ?_
      refine WL_val rfl rfl rfl (R_assign rfl rfl) ?_
      refine WL_nil ?_
      refine WQ_code ?_
      refine WC_ret ?_
      refine WQ_ret rfl rfl (.cons (.tmp rfl) .nil) rfl (by
          exact ⟨{ m1 with eb := ob, ek := ek, ec := ec, epre := epre, etl := etl }, congrArg (Value.int .i64) hm.symm, by rw [put_use hm hQ], rfl, by rw [put_use hm hQ]; exact h1.tell hoS⟩) (pqZ)
    · have hQ : s.Q = [] := by cases hq9 : s.Q with | nil => rfl | cons x r => exact absurd (by show ((fq s.Q).length : Int) > 0; rw [hq9]; simp <;> omega) c2
      refine WC_seq ?_
      refine WC_draw ([poP m (s.at_ now)]) [(0, true), (1, true), (2, true), (5, true), (6, true), (7, true), (8, true), (3, false), (4, true), (9, true), (10, true), (11, true)] followsMixed rfl rfl (by kernel_rfl) pqZ ?_
      refine WM_val rfl rfl rfl rfl (R_move rfl rfl) ?_
      refine WM_val rfl rfl rfl rfl (R_move rfl rfl) ?_
      refine WM_val rfl rfl rfl rfl (R_move rfl rfl) ?_
      refine WM_val rfl rfl rfl rfl (R_move rfl rfl) ?_
      refine WM_val rfl rfl rfl rfl (R_nilCheck rfl rfl) ?_
      refine WM_val rfl rfl rfl rfl (R_fieldAddr rfl fa136_1 rfl) ?_
      refine WM_val rfl rfl rfl rfl (R_load rfl sc3 rfl (mmZ) rfl) ?_
      refine WM_do rfl rfl rfl rfl (D_call (pall_ok h0 3) rfl rfl rfl rfl (pqZ)) ?_
      rintro _ _ ⟨_, ⟨o9, c9, tl9, rfl, own9, rfl⟩, rfl⟩
      refine ⟨⟨_, pqZ⟩, ?_⟩
      refine WM_val rfl rfl rfl rfl (R_len rfl Tryz.underlying23 rfl) ?_
      refine WM_val rfl rfl rfl rfl (R_lss rfl rfl rfl) ?_
      refine WM_val rfl rfl rfl rfl (R_pickT rfl rfl rfl) ?_
      refine WM_val rfl rfl rfl rfl (R_assign rfl rfl) ?_
      refine WM_nil ?_
      refine WQ_code ?_
      refine WC_dec rfl (fun c3 => ?_) (fun c3 => ?_)
      · have hl : (allI 3 s.C).length < s.most := by have h9 : ((allI 3 s.C).length : Int) < (s.most : Int) := c3; omega
        refine WC_region ?_
        refine WL_val rfl rfl rfl (R_move rfl rfl) ?_
        refine WL_val rfl rfl rfl (R_move rfl rfl) ?_
        refine WL_val rfl rfl rfl (R_move rfl rfl) ?_
        refine WL_val rfl rfl rfl (R_build rfl zv132 pl132 rfl rfl) ?_
        refine WL_val rfl rfl rfl (R_nilCheck rfl rfl) ?_
        refine WL_val rfl rfl rfl (R_fieldAddr rfl fa136_4 rfl) ?_
        refine WL_val rfl rfl rfl (R_indexAddrAN rfl Tryz.underlying133 Tryz.sizeOf132 rfl rfl (by omega)) ?_
        refine WL_do0 rfl rfl (D_store (vs := [_, _, _]) rfl Tryz.sizeOf132 rfl rfl rfl rfl rfl (plZ) (by exact pc_room h.cl rfl (by omega))) ?_
        rintro _ _ rfl
        rw [show putAt _ _ [.int .i64 (3), .int .i64 (0), .int .u64 ((now : Nat) : Int)] = _ from pc_put (A := pcH _) rfl (y := ⟨3, 0, now⟩) (show (s.at_ now).C[k]? = some x from hx) rfl]
        refine WL_nil ?_
        refine WQ_code ?_
        refine WC_seq ?_
        refine WC_region ?_
        refine WL_val rfl rfl rfl (R_assign rfl rfl) ?_
        refine WL_nil ?_
        refine WQ_code ?_
        refine WC_ret ?_
        refine WQ_ret rfl rfl (.cons (.tmp rfl) .nil) rfl (by
            exact ⟨m, congrArg (Value.int .i64) hm.symm, by rw [put_idle hm hQ hl], rfl, by rw [put_idle hm hQ hl]; exact h0.set (Nat.le_refl _) (⟨by decide, by decide⟩ : (0 : Int) ≤ 3 ∧ (3 : Int) ≤ 3)⟩) (pqZ)
      · have hl : ¬ (allI 3 s.C).length < s.most := by have h9 : ¬ ((allI 3 s.C).length : Int) < (s.most : Int) := c3; omega
        refine WC_seq ?_
        refine WC_region ?_
        refine WL_val rfl rfl rfl (R_move rfl rfl) ?_
        refine WL_val rfl rfl rfl (R_move rfl rfl) ?_
        refine WL_do rfl rfl rfl (D_call (ptell_ok h0 5 (-1) (k : Int) (by show s.E.length ≤ _; omega)) rfl rfl rfl rfl (pqZ)) ?_
        rintro _ _ ⟨_, ⟨ob, ek, ec, epre, etl, rfl, rfl, hoS⟩, rfl⟩
        refine WL_nil ?_
        refine WQ_code ?_
        refine WC_region ?_
        refine WL_val rfl rfl rfl (R_move rfl rfl) ?_
        refine WL_val rfl rfl rfl (R_move rfl rfl) ?_
        refine WL_do rfl rfl rfl (D_call (plose_ok (h0.tell hoS) k (by omega) (by show (s.E ++ [_]).length ≤ _; rw [List.length_append]; simp; omega)) rfl rfl rfl rfl (pqZ)) ?_
        rintro _ _ ⟨_, ⟨m2, rfl, rfl, hp2, h2⟩, rfl⟩
        refine WL_nil ?_
        refine WQ_code ?_
        refine WC_seq ?_
        refine WC_region ?_
        refine WL_val rfl rfl rfl (R_assign rfl rfl) ?_
        refine WL_nil ?_
        refine WQ_code ?_
        refine WC_ret ?_
        refine WQ_ret rfl rfl (.cons (.tmp rfl) .nil) rfl (by
            exact ⟨m2, congrArg (Value.int .i64) hm.symm, by rw [put_over hm hQ hl], hp2, by rw [put_over hm hQ hl]; exact h2⟩) (pqZ)
theorem pput_false {m : PM} {s : PS} (h : PIs m s) (hE : s.E.length ≤ 10000) (c : Int) (now : Nat) (hb : now ≤ 18446744073709551615) : Spec Tryz.prog 40 [ptrP m.p, .int .i64 c, .bool false, .int .u64 (now : Int)] (poH m s) (fun r H' => ∃ m', r = .int .i64 (s.inE c 2 now) ∧ H' = poH m' (s.put c false now) ∧ m'.p = m.p ∧ PIs m' (s.put c false now)) := by
  refine Spec.of (E := [(0, ptrP m.p), (1, .int .i64 c), (2, .bool false), (3, .int .u64 (now : Int))]) Tryz.func40 rfl (by kernel_rfl) Tryz.ntmps40 rfl rfl (fun w => ?_)
  refine WC_seq ?_
  refine WC_region ?_
  refine WL_val rfl rfl rfl (R_assign rfl rfl) ?_
  refine WL_nil ?_
  refine WQ_code ?_
  refine WC_seq ?_
  refine WC_seq ?_
  refine WC_region ?_
  refine WL_val rfl rfl rfl (R_move rfl rfl) ?_
  refine WL_val rfl rfl rfl (R_move rfl rfl) ?_
  refine WL_val rfl rfl rfl (R_move rfl rfl) ?_
  refine WL_do rfl rfl rfl (D_call (pin_ok h hE c 2 now) rfl rfl rfl rfl (pqZ)) ?_
  rintro _ _ ⟨_, ⟨rfl, rfl⟩, rfl⟩
  refine WL_val rfl rfl rfl (R_assign rfl rfl) ?_
  refine WL_nil ?_
  refine WQ_code ?_
  refine WC_seq ?_
  refine WC_region ?_
  refine WL_val rfl rfl rfl (R_move rfl rfl) ?_
  refine WL_val rfl rfl rfl (R_neq rfl rfl rfl) ?_
  refine WL_nil ?_
  refine WQ_code ?_
  refine WC_dec rfl (fun c1 => ?_) (fun c1 => ?_)
  · have hm := c1
    refine WC_seq ?_
    refine WC_region ?_
    refine WL_val rfl rfl rfl (R_move rfl rfl) ?_
    refine WL_val rfl rfl rfl (R_assign rfl rfl) ?_
    refine WL_nil ?_
    refine WQ_code ?_
    refine WC_ret ?_
    refine WQ_ret rfl rfl (.cons (.tmp rfl) .nil) rfl (by
        exact ⟨m, rfl, by rw [put_no hm], rfl, by rw [put_no hm]; exact h⟩) (pqZ)
  · have hm : s.inE c 2 now = 0 := Decidable.byContradiction c1
    obtain ⟨k, x, rfl, hk, hx, hst, hle, hne⟩ := inE_zero hm
    refine WC_skip ?_
    refine WQ_code ?_
    refine WC_seq ?_
    refine WC_region ?_
    refine WL_val rfl rfl rfl (R_move rfl rfl) ?_
    refine WL_val rfl rfl rfl (R_move rfl rfl) ?_
    refine WL_val rfl rfl rfl (R_nilCheck rfl rfl) ?_
    refine WL_val rfl rfl rfl (R_fieldAddr rfl fa136_3 rfl) ?_
    refine WL_do0 rfl rfl (D_store (vs := [_]) rfl Tryz.sizeOf25 rfl rfl rfl rfl rfl (plZ) (by exact pc_nowr m s)) ?_
    rintro _ _ rfl
    rw [pc_now]
    have h0 := h.at_ (now := now) hle (by omega)
    refine WL_nil ?_
    refine WQ_code ?_
    refine WC_seq ?_
    refine WC_block ?_
    refine WC_seq ?_
    refine WC_region ?_
    refine WL_val rfl rfl rfl (R_move rfl rfl) ?_
    refine WL_val rfl rfl rfl (R_move rfl rfl) ?_
    refine WL_skip rfl rfl rfl ?_
    refine WL_skip rfl rfl rfl ?_
    refine WL_skip rfl rfl rfl ?_
    refine WL_skip rfl rfl rfl ?_
    refine WL_skip rfl rfl rfl ?_
    refine WL_skip rfl rfl rfl ?_
    refine WL_val rfl rfl rfl (R_pickF rfl rfl rfl) ?_
    refine WL_val rfl rfl rfl (R_assign rfl rfl) ?_
    refine WL_nil ?_
    refine WQ_code ?_
    refine WC_F rfl ?_
    refine WC_seq ?_
    refine WC_draw _ [(0, true), (1, true), (2, true), (5, true), (6, true), (7, true), (8, true), (3, false), (4, true), (9, true), (10, true), (11, true)] followsMixed rfl rfl (by kernel_rfl) .all ?_
    refine WM_val rfl rfl rfl rfl (R_move rfl rfl) ?_
    refine WM_val rfl rfl rfl rfl (R_move rfl rfl) ?_
    refine WM_skip rfl rfl rfl rfl ?_
    refine WM_skip rfl rfl rfl rfl ?_
    refine WM_skip rfl rfl rfl rfl ?_
    refine WM_skip rfl rfl rfl rfl ?_
    refine WM_skip rfl rfl rfl rfl ?_
    refine WM_skipF rfl rfl rfl rfl (pqZ) ?_
    refine WM_skip rfl rfl rfl rfl ?_
    refine WM_skip rfl rfl rfl rfl ?_
    refine WM_val rfl rfl rfl rfl (R_pickF rfl rfl rfl) ?_
    refine WM_val rfl rfl rfl rfl (R_assign rfl rfl) ?_
    refine WM_nil ?_
    refine WQ_code ?_
    refine WC_F rfl ?_
    refine WC_seq ?_
    refine WC_region ?_
    refine WL_val rfl rfl rfl (R_move rfl rfl) ?_
    refine WL_val rfl rfl rfl (R_move rfl rfl) ?_
    refine WL_do rfl rfl rfl (D_call (ptell_ok h0 5 (-1) (k : Int) (by show s.E.length ≤ _; omega)) rfl rfl rfl rfl (pqZ)) ?_
    rintro _ _ ⟨_, ⟨ob, ek, ec, epre, etl, rfl, rfl, hoS⟩, rfl⟩
    refine WL_nil ?_
    refine WQ_code ?_
    refine WC_region ?_
    refine WL_val rfl rfl rfl (R_move rfl rfl) ?_
    refine WL_val rfl rfl rfl (R_move rfl rfl) ?_
    refine WL_do rfl rfl rfl (D_call (plose_ok (h0.tell hoS) k (by omega) (by show (s.E ++ [_]).length ≤ _; rw [List.length_append]; simp; omega)) rfl rfl rfl rfl (pqZ)) ?_
    rintro _ _ ⟨_, ⟨m2, rfl, rfl, hp2, h2⟩, rfl⟩
    refine WL_nil ?_
    refine WQ_code ?_
    refine WC_seq ?_
    refine WC_region ?_
    refine WL_val rfl rfl rfl (R_assign rfl rfl) ?_
    refine WL_nil ?_
    refine WQ_code ?_
    refine WC_ret ?_
    refine WQ_ret rfl rfl (.cons (.tmp rfl) .nil) rfl (by
        exact ⟨m2, congrArg (Value.int .i64) hm.symm, by rw [put_bad hm], hp2, by rw [put_bad hm]; exact h2⟩) (pqZ)
theorem pput_ok {m : PM} {s : PS} (h : PIs m s) (hE : s.E.length ≤ 10000) (c : Int) (good : Bool) (now : Nat) (hb : now ≤ 18446744073709551615) : Spec Tryz.prog 40 [ptrP m.p, .int .i64 c, .bool good, .int .u64 (now : Int)] (poH m s) (fun r H' => ∃ m', r = .int .i64 (s.inE c 2 now) ∧ H' = poH m' (s.put c good now) ∧ m'.p = m.p ∧ PIs m' (s.put c good now)) := by
  cases good with
  | true => exact pput_true h hE c now hb
  | false => exact pput_false h hE c now hb
theorem pleave_ok {m : PM} {s : PS} (h : PIs m s) {A B : List Qp} {x : Qp} (hQ : s.Q = A ++ x :: B) : Spec Tryz.prog 85 [ptrP m.p, .int .i64 x.who] (poH m s) (fun r H' => ∃ m', r = .tuple #[] ∧ H' = poH m' (s.leave x.who) ∧ m'.p = m.p ∧ PIs m' (s.leave x.who)) := by
  have hqk := h.qk
  have hqM := h.qM
  have hnd := h.nd
  have hpr := qk_sub h.qk (show (A ++ B).Sublist s.Q by rw [hQ]; exact List.Sublist.append_left (List.sublist_cons_self x B) A)
  have hin : (x.who, (x.t, x.dl)) ∈ wq s.Q := by rw [hQ]; exact List.mem_map_of_mem (List.mem_append_right _ (List.mem_cons_self ..))
  have hlv := leave_eq hQ hnd
  have hdel : delL (wq s.Q) x.who = wq (A ++ B) := by rw [wq_del]; exact congrArg wq (congrArg PS.Q hlv)
  have hfq : fq s.Q = fq A ++ (x.t, x.who) :: fq B := by rw [hQ]; simp [fq]
  have hfq2 : fq (A ++ B) = fq A ++ fq B := by simp [fq]
  rw [hlv]
  rw [hfq] at hqk hqM
  unfold poH
  rw [hfq]
  refine Spec.of (E := [(0, ptrP m.p), (1, .int .i64 x.who)]) Tryz.func85 rfl (by kernel_rfl) Tryz.ntmps85 rfl rfl (fun w => ?_)
  refine WC_seq ?_
  refine WC_draw ([poP m s, poW m]) [(0, true), (1, true), (2, true), (3, true), (4, true), (5, true), (6, true), (7, true), (8, true), (9, true), (10, true), (11, false)] followsMixed rfl rfl (by kernel_rfl) pqZ ?_
  refine WM_val rfl rfl rfl rfl (R_move rfl rfl) ?_
  refine WM_val rfl rfl rfl rfl (R_nilCheck rfl rfl) ?_
  refine WM_val rfl rfl rfl rfl (R_fieldAddr rfl fa136_5 rfl) ?_
  refine WM_val rfl rfl rfl rfl (R_load (v := ptrQ m.q) rfl sc127 rfl (mmZ) (pc_t h.cl rfl 0)) ?_
  refine WM_val rfl rfl rfl rfl (R_move rfl rfl) ?_
  refine WM_val rfl rfl rfl rfl (R_nilCheck rfl rfl) ?_
  refine WM_val rfl rfl rfl rfl (R_fieldAddr rfl fa136_6 rfl) ?_
  refine WM_val rfl rfl rfl rfl (R_load (v := .map (some m.wm)) rfl sc129 rfl (mmZ) (pc_t h.cl rfl 1)) ?_
  refine WM_val rfl rfl rfl rfl (R_move rfl rfl) ?_
  refine WM_val rfl rfl rfl rfl (R_lookK (k := x.who) (a := (x.t, x.dl)) rfl Tryz.underlying129 int_key rfl rfl mmZ h.wM hin) ?_
  refine WM_val rfl rfl rfl rfl (R_field rfl Tryz.underlying168 rfl rfl sc24 rfl rfl) ?_
  refine WM_do rfl rfl rfl rfl (D_call (qrem_ok m.q m.qm (fq A) (fq B) x.t x.who s.n m.qes m.qmc hqk hqM) rfl rfl rfl rfl (pqZ)) ?_
  rintro _ _ ⟨_, ⟨es1, mc1, rfl, rfl, hM1⟩, rfl⟩
  refine ⟨⟨_, pqZ⟩, ?_⟩
  rw [← hfq2] at hM1 ⊢
  refine WM_nil ?_
  refine WQ_code ?_
  refine WC_region ?_
  refine WL_val rfl rfl rfl (R_move rfl rfl) ?_
  refine WL_val rfl rfl rfl (R_nilCheck rfl rfl) ?_
  refine WL_val rfl rfl rfl (R_fieldAddr rfl fa136_6 rfl) ?_
  refine WL_val rfl rfl rfl (R_load (v := .map (some m.wm)) rfl sc129 rfl (mmZ) (pc_t h.cl rfl 1)) ?_
  refine WL_val rfl rfl rfl (R_move rfl rfl) ?_
  refine WL_do0 rfl rfl (D_deleteK (k := x.who) (a := (x.t, x.dl)) rfl Tryz.underlying129 int_key rfl rfl plZ h.wM hin) ?_
  rintro _ _ ⟨es9, hM9, rfl⟩
  rw [hdel] at hM9
  refine WL_nil ?_
  refine WQ_ret rfl rfl .nil rfl (by
      exact ⟨{ m with qes := es1, qmc := mc1, wes := es9, wmc := m.wmc }, rfl, rfl, rfl, h.q hpr hM1 hM9 (fun y hy => by rw [hQ]; rcases List.mem_append.1 hy with hy | hy; exact List.mem_append_left _ hy; exact List.mem_append_right _ (List.mem_cons_of_mem _ hy))⟩) (pqZ)
end Go.Proofs.YtelmlkdibcdebaaGreat
end
section
set_option linter.unusedVariables false
set_option linter.unusedSimpArgs false
namespace Go.Proofs.YtelmlkdibcdebaaGreat
section
variable {X : Ctx} {E : Env} {H : Heap} {o : Oper}
/-- x[:] of an array that lies in memory. -/
theorem R_sliceArr {t u : TypeId} {x : Operand} {b k n sz : Nat} (ho : o.op = .slice t x none none none) (hu : X.P.underlying t = some (.array n u)) (hs : ∀ w, (sizeOf u).run X.P w = .ok sz w)
    (hx : ev E x = some (.pointer (some ⟨b, k, none⟩))) : Runs X o E H (.slice (some ⟨b, k, none⟩) n n) :=
  ⟨(by rw [ho]; intro c e; cases e), fun a w ha _ => by
    have h : (Instr.sliceAt t (.pointer (some ⟨b, k, none⟩)) none none none).run X.P w = .ok (.slice (some ⟨b, k, none⟩) n n) w := by
      simp [Instr.sliceAt, Instr.sliceBounds, Instr.sliceBound, Instr.sureAddr, run_underlying hu, hs w, addr_add0]
    simp [execOp, ho, ha.eval hx, h]⟩
theorem run_zeroValue {P : Program} {e : TypeId} {i : TypeInfo} {z : Value} (h1 : P.info? e = some i) (h2 : i.zero = some z) (w : World) : (zeroValue e).run P w = .ok z w := by
  simp [zeroValue, typeInfo, h1, h2]
/-- clear(x[k:]) -/
theorem D_clear {t e e2 : TypeId} {sz bytes b k n c : Nat} {zs cs : List Value} {x : Operand} {F : Heap} (ho : o.op = .call { callee := .builtin .clear, args := #[x], argTypes := #[t] }) (hs : SI X.P t e sz bytes zs) (h1 : ∀ v ∈ zs, v.oneCell' = true)
    (hx : ev E x = some (.slice (some ⟨b, k, none⟩) n c)) (hp : Pull ⟨some b, cl cs e2⟩ H F) (hk : n = 0 ∨ k + n * sz ≤ cs.length) :
    Does X o E H (fun _ H' => ∃ ns : List Value, ns.length = n * sz ∧ H' = ⟨some b, cl (putAt cs k ns) e2⟩ :: F) := by
  intro a w ha hw next Q kk
  obtain ⟨g1, i, z, g2, g3, g4, g5, g6, g7, g8⟩ := hs
  refine ⟨about_true, ?_⟩
  rw [semAt_of (by rw [ho]; intro c e; cases e)]
  have hb : w.heap[b]? = some (cl cs e2) := by
    have := (hw.perm hp.perm).hok.ok _ (List.mem_cons_self ..)
    simpa [Ent.ok] using this
  cases n with
  | zero =>
    have hrun : (execOp a.eval o).run X.P w = .ok (.value (.tuple #[])) w := by
      simp [execOp, ho, resolve, ha.eval hx, invoke, builtin, Builtin.clear_, run_underlying g1]
    rw [hrun]
    exact kk _ _ _ ⟨[], by simp, rfl⟩ (by rw [putAt_nil]; exact hw.perm hp.perm)
  | succ n =>
    have hk' : k + (n + 1) * sz ≤ cs.length := by
      rcases hk with e | e
      · cases e
      · exact e
    have hlen : (Builtin.zeroCells zs.toArray (n + 1)).toList.length = (n + 1) * sz := by rw [Array.length_toList, size_zeroCells, List.size_toArray, g7]
    have hall : ∀ v ∈ (Builtin.zeroCells zs.toArray (n + 1)).toList, v.oneCell' = true := fun v hv => by
      simp only [Builtin.zeroCells, Array.toList_map, List.mem_map] at hv
      obtain ⟨j, _, rfl⟩ := hv
      have hj : j % zs.toArray.size < zs.toArray.size := Nat.mod_lt _ (by rw [List.size_toArray, g7]; exact g8)
      rw [getElem!_pos zs.toArray _ hj]
      exact h1 _ (by simp)
    obtain ⟨w', s1, s2, s3, s4, s5, s6, s7, s8⟩ := run_storeCells_at (P := X.P) (b := b) (e := e2) k (Builtin.zeroCells zs.toArray (n + 1)).toList 0 cs w hb (by rw [hlen]; omega) hall
    have hrun : (execOp a.eval o).run X.P w = .ok (.value (.tuple #[])) w' := by
      simp [execOp, ho, resolve, ha.eval hx, invoke, builtin, Builtin.clear_, run_underlying g1, run_zeroValue g2 g3, g6, s1]
    rw [hrun]
    exact kk _ _ _ ⟨_, hlen, rfl⟩ (by rw [Nat.add_zero] at s3; exact hw.turn hp s2 s3 s4 s5 s6 s7 s8)
end
theorem WZ_set {X : Ctx} {ops : Array Oper} {p : Post} {Hq : Heap} {E : Env} {H : Heap} {r es : List (Nat × Bool)} {s : Nat} {v v' : Value} (h : gtE E s = some v') (he : v' = v) (k : WZ X ops p Hq r es ((s, v) :: E) H) : WZ X ops p Hq r es E H := by
  subst he
  intro a w ha hw
  refine k a w ⟨ha.size, ha.defers, fun t v ht => ?_⟩ hw
  rw [get_cons] at ht
  split at ht
  · rename_i e; subst e; cases ht; exact ha.env _ _ h
  · exact ha.env _ _ ht
end Go.Proofs.YtelmlkdibcdebaaGreat
end
section
set_option linter.unusedVariables false
set_option maxRecDepth 20000
set_option maxHeartbeats 1000000
namespace Go.Proofs.YtelmlkdibcdebaaGreat
theorem PIs.canc {m : PM} {s : PS} (h : PIs m s) {now : Nat} (who : Int) (hm : s.may (decide (0 ≤ who ∧ who ≤ 1000)) now = 0) (hb : now ≤ 18446744073709551615) : PIs m (s.at_ now) := by
  obtain ⟨_, h2, h3⟩ := may_zero hm
  exact h.at_ h2 (by omega)
end Go.Proofs.YtelmlkdibcdebaaGreat
end
section
set_option linter.unusedVariables false
set_option maxRecDepth 20000
set_option maxHeartbeats 1000000
namespace Go.Proofs.YtelmlkdibcdebaaGreat
theorem own_litP (b : Nat) (l : List Int) (h : l.length ≤ 1000000) : Own (some b) l.length l.length 1 (ivs l) [] :=
  ⟨by rw [ivs_len, Nat.mul_one], by rw [ivs_len]; simp, Nat.le_refl _, by omega, fun e => by cases e⟩
theorem pget1_ok (x : Cn) (b2 : Nat) (who : Int) : Spec Tryz.prog 117 [.agg (encC x).toArray, .pointer (some ⟨b2, 0, none⟩)] [⟨some b2, cl [.int .i64 who] 3⟩] (fun r H' => r = .bool (decide (x.st = 1 ∧ x.who = who)) ∧ H' = [⟨some b2, cl [.int .i64 who] 3⟩]) := by
  refine Spec.of (E := [(0, .agg (encC x).toArray), (1, .pointer (some ⟨b2, 0, none⟩))]) Tryz.func117 rfl (by kernel_rfl) Tryz.ntmps117 rfl rfl (fun w => ?_)
  refine WC_seq ?_
  refine WC_region ?_
  refine WL_do rfl rfl rfl (D_box (cs := [_, _, _]) rfl rfl rfl) ?_
  rintro _ _ ⟨b1, rfl, rfl⟩
  refine WL_val rfl rfl rfl (R_assign rfl rfl) ?_
  refine WL_nil ?_
  refine WQ_code ?_
  refine WC_seq ?_
  refine WC_region ?_
  refine WL_val rfl rfl rfl (R_fieldAddr rfl fa132_0 rfl) ?_
  refine WL_val rfl rfl rfl (R_load rfl sc130 rfl (mmZ) rfl) ?_
  refine WL_val rfl rfl rfl (R_eql rfl rfl rfl) ?_
  refine WL_val rfl rfl rfl (R_move rfl rfl) ?_
  refine WL_splitD (s := 7) rfl (fun c1 => ?_) (fun c1 => ?_)
  · have hg := c1
    refine WL_val rfl rfl rfl (R_fieldAddr rfl fa132_1 rfl) ?_
    refine WL_val rfl rfl rfl (R_load rfl sc3 rfl (mmZ) rfl) ?_
    refine WL_val rfl rfl rfl (R_load rfl sc3 rfl (mmZ) rfl) ?_
    refine WL_val rfl rfl rfl (R_eql rfl rfl rfl) ?_
    refine WL_val rfl rfl rfl (R_pickT rfl rfl rfl) ?_
    refine WL_val rfl rfl rfl (R_assign rfl rfl) ?_
    refine WL_nil ?_
    refine WQ_code ?_
    refine WC_ret ?_
    refine WQ_ret rfl rfl (.cons (.tmp rfl) .nil) rfl (by
        first | exact ⟨congrArg Value.bool (decide_eq_decide.2 (by omega)), rfl⟩ | exact ⟨congrArg Value.bool (decide_eq_false (by omega)).symm, rfl⟩) (pqZ)
  · have hg := c1
    refine WL_skip rfl rfl rfl ?_
    refine WL_skip rfl rfl rfl ?_
    refine WL_skip rfl rfl rfl ?_
    refine WL_skip rfl rfl rfl ?_
    refine WL_val rfl rfl rfl (R_pickF rfl rfl rfl) ?_
    refine WL_val rfl rfl rfl (R_assign rfl rfl) ?_
    refine WL_nil ?_
    refine WQ_code ?_
    refine WC_ret ?_
    refine WQ_ret rfl rfl (.cons (.tmp rfl) .nil) rfl (by
        first | exact ⟨congrArg Value.bool (decide_eq_decide.2 (by omega)), rfl⟩ | exact ⟨congrArg Value.bool (decide_eq_false (by omega)).symm, rfl⟩) (pqZ)
theorem dials_next {C : List Cn} {k : Nat} {x : Cn} {who : Int} (hx : C[k]? = some x) (h : (C.take k).any (fun x => decide (x.st = 1 ∧ x.who = who)) = false) (hp : decide (x.st = 1 ∧ x.who = who) = false) : (C.take (k + 1)).any (fun x => decide (x.st = 1 ∧ x.who = who)) = false := by
  rw [take_next hx, List.any_append, h, Bool.false_or, List.any_cons, List.any_nil, Bool.or_false, hp]
theorem cidx_ok {m : PM} {s : PS} (h : PIs m s) (b2 : Nat) (who : Int) : Spec Tryz.prog 160 [.slice (some ⟨m.p, 4, none⟩) 64 64, .func (.func 117) #[] #[.pointer (some ⟨b2, 0, none⟩)]] [poP m s, ⟨some b2, cl [.int .i64 who] 3⟩] (fun r H' => ∃ v : Int, r = .int .i64 v ∧ (0 ≤ v ↔ s.dials who = true) ∧ H' = [poP m s, ⟨some b2, cl [.int .i64 who] 3⟩]) := by
  refine Spec.of (E := [(0, .slice (some ⟨m.p, 4, none⟩) 64 64), (1, .func (.func 117) #[] #[.pointer (some ⟨b2, 0, none⟩)])]) Tryz.func160 rfl (by kernel_rfl) Tryz.ntmps160 rfl rfl (fun w => ?_)
  refine WC_seq ?_
  refine WC_region ?_
  refine WL_val rfl rfl rfl (R_assign rfl rfl) ?_
  refine WL_nil ?_
  refine WQ_code ?_
  refine WC_seq ?_
  refine WC_seq ?_
  refine WC_region ?_
  refine WL_val rfl rfl rfl (R_move rfl rfl) ?_
  refine WL_val rfl rfl rfl (R_len rfl Tryz.underlying200 rfl) ?_
  refine WL_val rfl rfl rfl (R_move rfl rfl) ?_
  refine WL_nil ?_
  refine WQ_code ?_
  refine WC_block ?_
  refine WC_loopF (G := Nat) [4, 5, 8, 9, 10, 11, 12, 13, 14, 15, 16, 17, 18] (fun k => k ≤ 64 ∧ (s.C.take k).any (fun x => decide (x.st = 1 ∧ x.who = who)) = false) (fun k => [(8, .int .i64 (k : Int))]) (fun k => []) (fun k => 64 - k) (0) (⟨Nat.zero_le _, rfl⟩) leZ (pqZ) ?_
  rintro k ⟨hk, hz⟩
  refine WC_seq ?_
  refine WC_region ?_
  refine WL_val rfl rfl rfl (R_lss rfl rfl rfl) ?_
  refine WL_nil ?_
  refine WQ_code ?_
  refine WC_seq ?_
  refine WC_dec rfl (fun c1 => ?_) (fun c1 => ?_)
  · refine WC_skip ?_
    refine WQ_code ?_
    refine WC_seq ?_
    refine WC_block ?_
    refine WC_seq ?_
    refine WC_region ?_
    refine WL_val rfl rfl rfl (R_move rfl rfl) ?_
    refine WL_val rfl rfl rfl (R_assign rfl rfl) ?_
    refine WL_nil ?_
    refine WQ_code ?_
    refine WC_seq ?_
    refine WC_region ?_
    obtain ⟨x, hx⟩ := getE (T := s.C) (i := k) (by rw [h.cl]; omega)
    refine WL_val rfl rfl rfl (R_move rfl rfl) ?_
    refine WL_val rfl rfl rfl (R_move rfl rfl) ?_
    refine WL_val rfl rfl rfl (R_move rfl rfl) ?_
    refine WL_val rfl rfl rfl (R_indexAddrN rfl Tryz.underlying200 Tryz.sizeOf132 rfl rfl (by omega)) ?_
    refine WL_val rfl rfl rfl (R_loadA (vs := encC x) rfl ag132 rfl mmZ rfl (by have := pc_atC (A := pcH s) (T := pcT m s.E.length) rfl hx; exact this)) ?_
    refine WL_do rfl rfl rfl (D_call (pget1_ok x b2 who) rfl rfl rfl rfl (pqZ)) ?_
    rintro _ _ ⟨_, ⟨rfl, rfl⟩, rfl⟩
    refine WL_nil ?_
    refine WQ_code ?_
    refine WC_if rfl (fun c2 => ?_) (fun c2 => ?_)
    · have hc := c2
      refine WC_seq ?_
      refine WC_region ?_
      refine WL_val rfl rfl rfl (R_move rfl rfl) ?_
      refine WL_val rfl rfl rfl (R_assign rfl rfl) ?_
      refine WL_nil ?_
      refine WQ_code ?_
      refine WC_ret ?_
      refine WQ_ret rfl rfl (.cons (.tmp rfl) .nil) rfl (by
          first | exact ⟨_, rfl, ⟨fun _ => List.any_eq_true.2 ⟨x, List.mem_of_getElem? hx, hc⟩, fun _ => Int.natCast_nonneg _⟩, rfl⟩ | exact ⟨_, rfl, ⟨fun e => absurd e (by decide), fun e => by unfold PS.dials at e; rw [List.take_of_length_le (by rw [h.cl]; omega)] at hz; rw [hz] at e; cases e⟩, rfl⟩) (pqZ)
    · have hc := c2
      refine WC_skip ?_
      refine WQ_code ?_
      refine WC_region ?_
      refine WL_val rfl rfl rfl (R_add rfl rfl rfl (by omega)) ?_
      refine WL_val rfl rfl rfl (R_move rfl rfl) ?_
      refine WL_nil ?_
      refine WQ_nextF (k + 1) (⟨by omega, dials_next hx hz hc⟩) (by omega) leZ (psZ) rfl (pqZ)
  · have hkl : k = 64 := by omega
    refine WC_exit ?_
    refine WQ_code ?_
    refine WC_seq ?_
    refine WC_region ?_
    refine WL_val rfl rfl rfl (R_assign rfl rfl) ?_
    refine WL_nil ?_
    refine WQ_code ?_
    refine WC_ret ?_
    refine WQ_ret rfl rfl (.cons (.tmp rfl) .nil) rfl (by
        first | exact ⟨_, rfl, ⟨fun _ => List.any_eq_true.2 ⟨x, List.mem_of_getElem? hx, hc⟩, fun _ => Int.natCast_nonneg _⟩, rfl⟩ | exact ⟨_, rfl, ⟨fun e => absurd e (by decide), fun e => by unfold PS.dials at e; rw [List.take_of_length_le (by rw [h.cl]; omega)] at hz; rw [hz] at e; cases e⟩, rfl⟩) (pqZ)
theorem ccon_ok {m : PM} {s : PS} (h : PIs m s) (b2 : Nat) (who : Int) : Spec Tryz.prog 116 [.slice (some ⟨m.p, 4, none⟩) 64 64, .func (.func 117) #[] #[.pointer (some ⟨b2, 0, none⟩)]] [poP m s, ⟨some b2, cl [.int .i64 who] 3⟩] (fun r H' => r = .bool (s.dials who) ∧ H' = [poP m s, ⟨some b2, cl [.int .i64 who] 3⟩]) := by
  refine Spec.of (E := [(0, .slice (some ⟨m.p, 4, none⟩) 64 64), (1, .func (.func 117) #[] #[.pointer (some ⟨b2, 0, none⟩)])]) Tryz.func116 rfl (by kernel_rfl) Tryz.ntmps116 rfl rfl (fun w => ?_)
  refine WC_seq ?_
  refine WC_region ?_
  refine WL_val rfl rfl rfl (R_assign rfl rfl) ?_
  refine WL_nil ?_
  refine WQ_code ?_
  refine WC_seq ?_
  refine WC_region ?_
  refine WL_val rfl rfl rfl (R_move rfl rfl) ?_
  refine WL_val rfl rfl rfl (R_move rfl rfl) ?_
  refine WL_do rfl rfl rfl (D_call (cidx_ok h b2 who) rfl rfl rfl rfl (pqZ)) ?_
  rintro _ _ ⟨_, ⟨v, rfl, hv, rfl⟩, rfl⟩
  refine WL_val rfl rfl rfl (R_geq rfl rfl rfl) ?_
  refine WL_val rfl rfl rfl (R_assign rfl rfl) ?_
  refine WL_nil ?_
  refine WQ_code ?_
  refine WC_ret ?_
  refine WQ_ret rfl rfl (.cons (.tmp rfl) .nil) rfl (by
      exact ⟨congrArg Value.bool (by cases hd : s.dials who with | true => exact decide_eq_true (hv.2 hd) | false => exact decide_eq_false (fun e => by have := hv.1 e; rw [hd] at this; cases this)), rfl⟩) (pqZ)
theorem since_at {C : List Cn} {k : Nat} {x : Cn} (h : C[k]? = some x) : sinceI C (k : Int) = x.since := by unfold sinceI; rw [Int.toNat_natCast, h]
theorem pget2_ok {m : PM} {s : PS} (h : PIs m s) (b1 : Nat) (a b : Int) (ha : a ∈ allI 3 s.C) (hb : b ∈ allI 3 s.C) : Spec Tryz.prog 119 [.int .i64 a, .int .i64 b, .pointer (some ⟨b1, 0, none⟩)] [⟨some b1, cl [ptrP m.p] 79⟩, poP m s] (fun r H' => r = .int .i64 (idleC s.C a b) ∧ [⟨some b1, cl [ptrP m.p] 79⟩, poP m s] = H') := by
  obtain ⟨i, x, rfl, hx, _⟩ := allI_mem ha
  obtain ⟨j, y, rfl, hy, _⟩ := allI_mem hb
  have hi := (List.getElem?_eq_some_iff.1 hx).1
  have hj := (List.getElem?_eq_some_iff.1 hy).1
  rw [h.cl] at hi hj
  refine Spec.of (E := [(0, .int .i64 (i : Int)), (1, .int .i64 (j : Int)), (2, .pointer (some ⟨b1, 0, none⟩))]) Tryz.func119 rfl (by kernel_rfl) Tryz.ntmps119 rfl rfl (fun w => ?_)
  refine WC_seq ?_
  refine WC_region ?_
  refine WL_val rfl rfl rfl (R_assign rfl rfl) ?_
  refine WL_nil ?_
  refine WQ_code ?_
  refine WC_seq ?_
  refine WC_draw _ [(0, true), (1, true), (2, true), (3, true), (4, true), (5, true), (6, true), (7, true), (8, true), (9, true), (10, true), (11, true), (12, true), (13, true), (14, true), (15, true), (16, true), (17, true), (18, false), (19, false), (20, true)] followsMixed rfl rfl (by kernel_rfl) .all ?_
  refine WM_val rfl rfl rfl rfl (R_load rfl sc79 rfl (mmZ) rfl) ?_
  refine WM_val rfl rfl rfl rfl (R_move rfl rfl) ?_
  refine WM_val rfl rfl rfl rfl (R_nilCheck rfl rfl) ?_
  refine WM_val rfl rfl rfl rfl (R_fieldAddr rfl fa136_4 rfl) ?_
  refine WM_val rfl rfl rfl rfl (R_indexAddrAN rfl Tryz.underlying133 Tryz.sizeOf132 rfl rfl (by omega)) ?_
  refine WM_val rfl rfl rfl rfl (R_fieldAddr rfl fa132_2 rfl) ?_
  refine WM_val rfl rfl rfl rfl (R_load (v := .int .u64 (x.since : Int)) rfl sc25 rfl (mmZ) (pc_get (A := pcH s) rfl hx (j := 2) (by omega))) ?_
  refine WM_val rfl rfl rfl rfl (R_load rfl sc79 rfl (mmZ) rfl) ?_
  refine WM_val rfl rfl rfl rfl (R_move rfl rfl) ?_
  refine WM_val rfl rfl rfl rfl (R_nilCheck rfl rfl) ?_
  refine WM_val rfl rfl rfl rfl (R_fieldAddr rfl fa136_4 rfl) ?_
  refine WM_val rfl rfl rfl rfl (R_indexAddrAN rfl Tryz.underlying133 Tryz.sizeOf132 rfl rfl (by omega)) ?_
  refine WM_val rfl rfl rfl rfl (R_fieldAddr rfl fa132_2 rfl) ?_
  refine WM_val rfl rfl rfl rfl (R_load (v := .int .u64 (y.since : Int)) rfl sc25 rfl (mmZ) (pc_get (A := pcH s) rfl hy (j := 2) (by omega))) ?_
  refine WM_call rfl (Spec.quiet (cmpt_ok _ _)) rfl rfl rfl rfl rfl rfl rfl (pqZ) ?_
  refine WM_val rfl rfl rfl rfl (R_move rfl rfl) ?_
  refine WM_val rfl rfl rfl rfl (R_move rfl rfl) ?_
  refine WM_call rfl (Spec.quiet (cmpi_ok _ _)) rfl rfl rfl rfl rfl rfl rfl (pqZ) ?_
  refine WM_do rfl rfl rfl rfl (D_buildSlice rfl si23 rfl rfl rfl) ?_
  rintro _ _ ⟨b1, rfl, rfl⟩
  refine ⟨⟨_, pqZ⟩, ?_⟩
  refine WM_do rfl rfl rfl rfl (D_call (cor_ok [cmpI (x.since : Int) (y.since : Int), cmpI (i : Int) (j : Int)] (Nat.le_of_ble_eq_true rfl) _ _ [] (own_litP _ _ (Nat.le_of_ble_eq_true rfl))) rfl rfl rfl rfl (pqZ)) ?_
  rintro _ _ ⟨_, ⟨rfl, rfl⟩, rfl⟩
  refine ⟨⟨_, pqZ⟩, ?_⟩
  refine WM_val rfl rfl rfl rfl (R_assign rfl rfl) ?_
  refine WM_nil ?_
  refine WQ_code ?_
  refine WC_ret ?_
  refine WQ_ret rfl rfl (.cons (.tmp rfl) .nil) rfl (by
      exact ⟨congrArg (Value.int .i64) (show orL [_, _] = idleC s.C _ _ by unfold idleC lexI; rw [since_at hx, since_at hy]), rfl⟩) (pqZ)
end Go.Proofs.YtelmlkdibcdebaaGreat
end
section
set_option linter.unusedVariables false
set_option maxRecDepth 20000
set_option maxHeartbeats 4000000
namespace Go.Proofs.YtelmlkdibcdebaaGreat
theorem pget_ok {m : PM} {s : PS} (h : PIs m s) (hE : s.E.length ≤ 10000) (hn : s.n < 1000000000000) (who : Int) (now dl : Nat) (hb : now ≤ 18446744073709551615) : Spec Tryz.prog 61 [ptrP m.p, .int .i64 who, .int .u64 (now : Int), .int .u64 (dl : Int)] (poH m s)
    (fun r H' => ∃ m', r = .tuple #[pvV (s.getV who now dl), .int .i64 (getE_ s who now dl)] ∧ H' = poH m' (s.getS who now dl) ∧ m'.p = m.p ∧ PIs m' (s.getS who now dl)) := by
  have hql := h.ql
  have hlen := allI_len 3 s.C
  rw [h.cl] at hlen
  refine Spec.of (E := [(0, ptrP m.p), (1, .int .i64 who), (2, .int .u64 (now : Int)), (3, .int .u64 (dl : Int))]) Tryz.func61 rfl (by kernel_rfl) Tryz.ntmps61 rfl rfl (fun w => ?_)
  refine WC_seq ?_
  refine WC_region ?_
  refine WL_do rfl rfl rfl (D_box (cs := [_]) rfl rfl rfl) ?_
  rintro _ _ ⟨b1, rfl, rfl⟩
  refine WL_do rfl rfl rfl (D_box (cs := [_]) rfl rfl rfl) ?_
  rintro _ _ ⟨b2, rfl, rfl⟩
  refine WL_do rfl rfl rfl (D_alloc rfl zv143) ?_
  rintro _ _ ⟨b3, rfl, rfl⟩
  refine WL_val rfl rfl rfl (R_assign rfl rfl) ?_
  refine WL_nil ?_
  refine WQ_code ?_
  refine WC_seq ?_
  refine WC_region ?_
  refine WL_val rfl rfl rfl (R_load rfl sc79 rfl (mmZ) rfl) ?_
  refine WL_val rfl rfl rfl (R_load rfl sc3 rfl (mmZ) rfl) ?_
  refine WL_val rfl rfl rfl (R_geq rfl rfl rfl) ?_
  refine WL_val rfl rfl rfl (R_move rfl rfl) ?_
  refine WL_splitD (s := 21) rfl (fun c1 => ?_) (fun c1 => ?_)
  · have hg := c1
    refine WL_val rfl rfl rfl (R_load rfl sc3 rfl (mmZ) rfl) ?_
    refine WL_val rfl rfl rfl (R_leq rfl rfl rfl) ?_
    refine WL_val rfl rfl rfl (R_pickT rfl rfl rfl) ?_
    refine WL_val rfl rfl rfl (R_move rfl rfl) ?_
    refine WL_set (s := 24) (v := .bool (decide (0 ≤ who ∧ who ≤ 1000))) rfl (by first | exact congrArg Value.bool (decide_eq_decide.2 (by omega)) | exact congrArg Value.bool (decide_eq_false (by omega)).symm) ?_
    refine WL_do rfl rfl rfl (D_call (pmay_ok h (decide (0 ≤ who ∧ who ≤ 1000)) now) rfl rfl rfl rfl (pqZ)) ?_
    rintro _ _ ⟨_, ⟨rfl, rfl⟩, rfl⟩
    refine WL_val rfl rfl rfl (R_assign rfl rfl) ?_
    refine WL_nil ?_
    refine WQ_code ?_
    refine WC_seq ?_
    refine WC_block ?_
    refine WC_seq ?_
    refine WC_region ?_
    refine WL_val rfl rfl rfl (R_move rfl rfl) ?_
    refine WL_val rfl rfl rfl (R_neq rfl rfl rfl) ?_
    refine WL_val rfl rfl rfl (R_assign rfl rfl) ?_
    refine WL_nil ?_
    refine WQ_code ?_
    refine WC_dec rfl (fun c2 => ?_) (fun c2 => ?_)
    · have hm := c2
      refine WC_seq ?_
      refine WC_region ?_
      refine WL_val rfl rfl rfl (R_build rfl zv143 pl143 rfl rfl) ?_
      refine WL_val rfl rfl rfl (R_move rfl rfl) ?_
      refine WL_do0 rfl rfl (D_store (vs := [_, _, _]) rfl Tryz.sizeOf143 rfl rfl rfl rfl rfl (plZ) (by exact Nat.le_of_ble_eq_true rfl)) ?_
      rintro _ _ rfl
      refine WL_val rfl rfl rfl (R_assign rfl rfl) ?_
      refine WL_nil ?_
      refine WQ_code ?_
      refine WC_ret ?_
      refine WQ_ret rfl rfl (.cons (.cell (vs := [_, _, _]) rfl ag143 (mmZ) rfl (atZ)) (.cons (.tmp rfl) .nil)) rfl (by
          have he : getE_ s who now dl = _ := getE_may hm
          have hg9 := get_err (s := s) (who := who) (now := now) (dl := dl) (by rw [he]; exact hm)
          exact ⟨m, by rw [hg9.2, he]; rfl, by rw [hg9.1], rfl, by rw [hg9.1]; exact h⟩) (pqZ)
    · have hm : s.may (decide (0 ≤ who ∧ who ≤ 1000)) now = 0 := Decidable.byContradiction c2
      refine WC_seq ?_
      refine WC_region ?_
      refine WL_val rfl rfl rfl (R_move rfl rfl) ?_
      refine WL_val rfl rfl rfl (R_move rfl rfl) ?_
      refine WL_val rfl rfl rfl (R_leq rfl rfl rfl) ?_
      refine WL_val rfl rfl rfl (R_assign rfl rfl) ?_
      refine WL_nil ?_
      refine WQ_code ?_
      refine WC_dec rfl (fun c3 => ?_) (fun c3 => ?_)
      · have hd : dl ≤ now := by omega
        refine WC_seq ?_
        refine WC_region ?_
        refine WL_val rfl rfl rfl (R_build rfl zv143 pl143 rfl rfl) ?_
        refine WL_do0 rfl rfl (D_store (vs := [_, _, _]) rfl Tryz.sizeOf143 rfl rfl rfl rfl rfl (plZ) (by exact Nat.le_of_ble_eq_true rfl)) ?_
        rintro _ _ rfl
        refine WL_val rfl rfl rfl (R_assign rfl rfl) ?_
        refine WL_nil ?_
        refine WQ_code ?_
        refine WC_ret ?_
        refine WQ_ret rfl rfl (.cons (.cell (vs := [_, _, _]) rfl ag143 (mmZ) rfl (atZ)) (.cons (.tmp rfl) .nil)) rfl (by
            have he : getE_ s who now dl = _ := getE_late hm hd
            have hg9 := get_err (s := s) (who := who) (now := now) (dl := dl) (by rw [he]; decide)
            exact ⟨m, by rw [hg9.2, he]; rfl, by rw [hg9.1], rfl, by rw [hg9.1]; exact h⟩) (pqZ)
      · have hd : ¬ dl ≤ now := by omega
        rcases waits_or s who with ⟨A, x, B, hQ, rfl⟩ | ⟨hw, hno⟩
        · refine WC_skip ?_
          refine WQ_code ?_
          refine WC_seq ?_
          refine WC_draw _ [(0, true), (1, true), (2, true), (3, true), (4, true), (5, true), (6, true), (7, true), (8, true), (9, false), (10, false), (11, true)] followsMixed rfl rfl (by kernel_rfl) .all ?_
          refine WM_val rfl rfl rfl rfl (R_load rfl sc79 rfl (mmZ) rfl) ?_
          refine WM_val rfl rfl rfl rfl (R_nilCheck rfl rfl) ?_
          refine WM_val rfl rfl rfl rfl (R_fieldAddr rfl fa136_6 rfl) ?_
          refine WM_val rfl rfl rfl rfl (R_load (v := .map (some m.wm)) rfl sc129 rfl (mmZ) (pc_t h.cl rfl 1)) ?_
          refine WM_val rfl rfl rfl rfl (R_load rfl sc3 rfl (mmZ) rfl) ?_
          refine WM_val rfl rfl rfl rfl (R_lookKT (k := x.who) (a := (x.t, x.dl)) rfl Tryz.underlying129 int_key rfl rfl mmZ h.wM (by rw [hQ]; exact List.mem_map_of_mem (List.mem_append_right _ (List.mem_cons_self ..)))) ?_
          refine WM_val rfl rfl rfl rfl (R_move rfl rfl) ?_
          refine WM_val rfl rfl rfl rfl (R_extract rfl rfl rfl) ?_
          refine WM_val rfl rfl rfl rfl (R_extract rfl rfl rfl) ?_
          refine WM_set (s := 45) (v := .bool true) rfl (by rfl) ?_
          refine WM_do rfl rfl rfl rfl (D_alloc rfl zv168) ?_
          rintro _ _ ⟨b4, rfl, rfl⟩
          refine ⟨⟨_, pqZ⟩, ?_⟩
          refine WM_do0 rfl rfl rfl (D_store (vs := [_, _]) rfl Tryz.sizeOf168 rfl rfl rfl rfl rfl (plZ) (by exact Nat.le_of_ble_eq_true rfl)) ?_
          rintro _ _ rfl
          refine ⟨⟨_, pqZ⟩, ?_⟩
          refine WM_val rfl rfl rfl rfl (R_assign rfl rfl) ?_
          refine WM_nil ?_
          refine WQ_code ?_
          refine WC_seq ?_
          refine WC_seq ?_
          refine WC_region ?_
          refine WL_val rfl rfl rfl (R_move rfl rfl) ?_
          refine WL_val rfl rfl rfl (R_move rfl rfl) ?_
          refine WL_skip rfl rfl rfl ?_
          refine WL_skip rfl rfl rfl ?_
          refine WL_skip rfl rfl rfl ?_
          refine WL_skip rfl rfl rfl ?_
          refine WL_skip rfl rfl rfl ?_
          refine WL_skip rfl rfl rfl ?_
          refine WL_val rfl rfl rfl (R_pickT rfl rfl rfl) ?_
          refine WL_nil ?_
          refine WQ_code ?_
          refine WC_T rfl ?_
          refine WC_seq ?_
          refine WC_region ?_
          refine WL_val rfl rfl rfl (R_build rfl zv143 pl143 rfl rfl) ?_
          refine WL_do0 rfl rfl (D_store (vs := [_, _, _]) rfl Tryz.sizeOf143 rfl rfl rfl rfl rfl (plZ) (by exact Nat.le_of_ble_eq_true rfl)) ?_
          rintro _ _ rfl
          refine WL_val rfl rfl rfl (R_assign rfl rfl) ?_
          refine WL_nil ?_
          refine WQ_code ?_
          refine WC_ret ?_
          refine WQ_ret rfl rfl (.cons (.cell (vs := [_, _, _]) rfl ag143 (mmZ) rfl (atZ)) (.cons (.tmp rfl) .nil)) rfl (by
              have he := getE_busy hm hd (.inl (waits_in hQ))
              have hg9 := get_err (by rw [he]; decide)
              exact ⟨m, by rw [hg9.2, he]; rfl, by rw [hg9.1], rfl, by rw [hg9.1]; exact h⟩) (pqZ)
        · refine WC_skip ?_
          refine WQ_code ?_
          refine WC_seq ?_
          refine WC_draw _ [(0, true), (1, true), (2, true), (3, true), (4, true), (5, true), (6, true), (7, true), (8, true), (9, false), (10, false), (11, true)] followsMixed rfl rfl (by kernel_rfl) .all ?_
          refine WM_val rfl rfl rfl rfl (R_load rfl sc79 rfl (mmZ) rfl) ?_
          refine WM_val rfl rfl rfl rfl (R_nilCheck rfl rfl) ?_
          refine WM_val rfl rfl rfl rfl (R_fieldAddr rfl fa136_6 rfl) ?_
          refine WM_val rfl rfl rfl rfl (R_load (v := .map (some m.wm)) rfl sc129 rfl (mmZ) (pc_t h.cl rfl 1)) ?_
          refine WM_val rfl rfl rfl rfl (R_load rfl sc3 rfl (mmZ) rfl) ?_
          refine WM_val rfl rfl rfl rfl (R_lookKF (k := who) (zv := .agg #[.int .u64 0, .int .u64 0]) rfl Tryz.underlying129 int_key rfl rfl mmZ h.wM hno (fun w => Tryz.zeroValue168 w)) ?_
          refine WM_val rfl rfl rfl rfl (R_move rfl rfl) ?_
          refine WM_val rfl rfl rfl rfl (R_extract rfl rfl rfl) ?_
          refine WM_val rfl rfl rfl rfl (R_extract rfl rfl rfl) ?_
          refine WM_set (s := 45) (v := .bool false) rfl (by rfl) ?_
          refine WM_do rfl rfl rfl rfl (D_alloc rfl zv168) ?_
          rintro _ _ ⟨b5, rfl, rfl⟩
          refine ⟨⟨_, pqZ⟩, ?_⟩
          refine WM_do0 rfl rfl rfl (D_store (vs := [_, _]) rfl Tryz.sizeOf168 rfl rfl rfl rfl rfl (plZ) (by exact Nat.le_of_ble_eq_true rfl)) ?_
          rintro _ _ rfl
          refine ⟨⟨_, pqZ⟩, ?_⟩
          refine WM_val rfl rfl rfl rfl (R_assign rfl rfl) ?_
          refine WM_nil ?_
          refine WQ_code ?_
          refine WC_seq ?_
          refine WC_seq ?_
          refine WC_region ?_
          refine WL_val rfl rfl rfl (R_move rfl rfl) ?_
          refine WL_val rfl rfl rfl (R_move rfl rfl) ?_
          refine WL_val rfl rfl rfl (R_load rfl sc79 rfl (mmZ) rfl) ?_
          refine WL_val rfl rfl rfl (R_nilCheck rfl rfl) ?_
          refine WL_val rfl rfl rfl (R_fieldAddr rfl fa136_4 rfl) ?_
          refine WL_val rfl rfl rfl (R_sliceArr rfl Tryz.underlying133 Tryz.sizeOf132 rfl) ?_
          refine WL_val rfl rfl rfl (R_makeFunc rfl rfl rfl) ?_
          refine WL_do rfl rfl rfl (D_call (ccon_ok h b2 who) rfl rfl rfl rfl (pqZ)) ?_
          rintro _ _ ⟨_, ⟨rfl, rfl⟩, rfl⟩
          refine WL_val rfl rfl rfl (R_pickF rfl rfl rfl) ?_
          refine WL_nil ?_
          refine WQ_code ?_
          refine WC_if rfl (fun c4 => ?_) (fun c4 => ?_)
          · have hdl := c4
            refine WC_seq ?_
            refine WC_region ?_
            refine WL_val rfl rfl rfl (R_build rfl zv143 pl143 rfl rfl) ?_
            refine WL_do0 rfl rfl (D_store (vs := [_, _, _]) rfl Tryz.sizeOf143 rfl rfl rfl rfl rfl (plZ) (by exact Nat.le_of_ble_eq_true rfl)) ?_
            rintro _ _ rfl
            refine WL_val rfl rfl rfl (R_assign rfl rfl) ?_
            refine WL_nil ?_
            refine WQ_code ?_
            refine WC_ret ?_
            refine WQ_ret rfl rfl (.cons (.cell (vs := [_, _, _]) rfl ag143 (mmZ) rfl (atZ)) (.cons (.tmp rfl) .nil)) rfl (by
                have he := getE_busy hm hd (.inr hdl)
                have hg9 := get_err (by rw [he]; decide)
                exact ⟨m, by rw [hg9.2, he]; rfl, by rw [hg9.1], rfl, by rw [hg9.1]; exact h⟩) (pqZ)
          · have hdl := c4
            refine WC_skip ?_
            refine WQ_code ?_
            refine WC_seq ?_
            refine WC_seq ?_
            refine WC_region ?_
            refine WL_val rfl rfl rfl (R_load rfl sc79 rfl (mmZ) rfl) ?_
            refine WL_do rfl rfl rfl (D_call (pfull_ok h hE) rfl rfl rfl rfl (pqZ)) ?_
            rintro _ _ ⟨_, ⟨rfl, rfl⟩, rfl⟩
            refine WL_val rfl rfl rfl (R_assign rfl rfl) ?_
            refine WL_nil ?_
            refine WQ_code ?_
            refine WC_seq ?_
            refine WC_region ?_
            refine WL_val rfl rfl rfl (R_move rfl rfl) ?_
            refine WL_val rfl rfl rfl (R_neq rfl rfl rfl) ?_
            refine WL_nil ?_
            refine WQ_code ?_
            refine WC_dF rfl (by simp) ?_
            refine WC_skip ?_
            refine WQ_code ?_
            refine WC_seq ?_
            refine WC_region ?_
            refine WL_val rfl rfl rfl (R_load rfl sc79 rfl (mmZ) rfl) ?_
            refine WL_val rfl rfl rfl (R_move rfl rfl) ?_
            refine WL_val rfl rfl rfl (R_nilCheck rfl rfl) ?_
            refine WL_val rfl rfl rfl (R_fieldAddr rfl fa136_3 rfl) ?_
            refine WL_do0 rfl rfl (D_store (vs := [_]) rfl Tryz.sizeOf25 rfl rfl rfl rfl rfl (plZ) (by exact pc_nowr m s)) ?_
            rintro _ _ rfl
            rw [pc_now]
            have h0 := h.canc _ hm hb
            refine WL_nil ?_
            refine WQ_code ?_
            refine WC_seq ?_
            refine WC_seq ?_
            refine WC_region ?_
            refine WL_val rfl rfl rfl (R_load rfl sc79 rfl (mmZ) rfl) ?_
            refine WL_do rfl rfl rfl (D_call (pall_ok h0 3) rfl rfl rfl rfl (pqZ)) ?_
            rintro _ _ ⟨_, ⟨o9, c9, tl9, rfl, own9, rfl⟩, rfl⟩
            refine WL_val rfl rfl rfl (R_assign rfl rfl) ?_
            refine WL_nil ?_
            refine WQ_code ?_
            refine WC_seq ?_
            refine WC_region ?_
            refine WL_val rfl rfl rfl (R_move rfl rfl) ?_
            refine WL_val rfl rfl rfl (R_len rfl Tryz.underlying23 rfl) ?_
            refine WL_val rfl rfl rfl (R_gtr rfl rfl rfl) ?_
            refine WL_nil ?_
            refine WQ_code ?_
            refine WC_dec rfl (fun c5 => ?_) (fun c5 => ?_)
            · have hl := c5
              refine WC_seq ?_
              refine WC_region ?_
              have hne : allI 3 s.C ≠ [] := fun e => by have h9 : ((allI 3 s.C).length : Int) > 0 := hl; rw [e] at h9; simp at h9
              obtain ⟨kl, xl, hkl, hxl, hkl2, _⟩ := last_mem hne
              rw [h.cl] at hkl2
              refine WL_val rfl rfl rfl (R_move rfl rfl) ?_
              refine WL_val rfl rfl rfl (R_makeFunc rfl rfl rfl) ?_
              refine WL_do rfl rfl rfl (D_call (maxf_ok (allI 3 s.C) o9 c9 tl9 own9 119 [.pointer (some ⟨b1, 0, none⟩)] [⟨some b1, cl [ptrP m.p] 79⟩, poP m (s.at_ now)] (idleC s.C) (fun a ha b hb => pget2_ok h0 b1 a b ha hb) (by show 1 ≤ (allI 3 s.C).length; exact List.length_pos_iff.2 hne) (by show (allI 3 s.C).length ≤ _; omega)) rfl rfl rfl rfl (pqZ)) ?_
              rintro _ _ ⟨_, ⟨rfl, rfl⟩, rfl⟩
              refine WL_val rfl rfl rfl (R_assign rfl rfl) ?_
              refine WL_nil ?_
              refine WQ_code ?_
              refine WC_seq ?_
              refine WC_region ?_
              refine WL_val rfl rfl rfl (R_load rfl sc79 rfl (mmZ) rfl) ?_
              refine WL_val rfl rfl rfl (R_move rfl rfl) ?_
              refine WL_val rfl rfl rfl (R_build rfl zv132 pl132 rfl rfl) ?_
              refine WL_val rfl rfl rfl (R_nilCheck rfl rfl) ?_
              refine WL_val rfl rfl rfl (R_fieldAddr rfl fa136_4 rfl) ?_
              refine WL_val rfl rfl rfl (R_indexAddrA rfl Tryz.underlying133 Tryz.sizeOf132 rfl rfl (by exact ⟨by show 0 ≤ s.last; omega, by show s.last < 64; omega⟩)) ?_
              refine WL_do0 rfl rfl (D_store (vs := [_, _, _]) rfl Tryz.sizeOf132 rfl rfl rfl rfl rfl (plZ) (by exact pc_room h.cl rfl (i := s.last.toNat) (by omega))) ?_
              rintro _ _ rfl
              rw [show putAt _ _ [.int .i64 (2), .int .i64 (0), .int .u64 (0)] = _ from pc_put (A := pcH _) rfl (y := ⟨2, 0, 0⟩) (show (s.at_ now).C[s.last.toNat]? = some xl from hxl) rfl]
              refine WL_nil ?_
              refine WQ_code ?_
              refine WC_seq ?_
              refine WC_region ?_
              refine WL_val rfl rfl rfl (R_load rfl sc3 rfl (mmZ) rfl) ?_
              refine WL_val rfl rfl rfl (R_move rfl rfl) ?_
              refine WL_val rfl rfl rfl (R_build rfl zv143 pl143 rfl rfl) ?_
              refine WL_do0 rfl rfl (D_store (vs := [_, _, _]) rfl Tryz.sizeOf143 rfl rfl rfl rfl rfl (plZ) (by exact Nat.le_of_ble_eq_true rfl)) ?_
              rintro _ _ rfl
              refine WL_val rfl rfl rfl (R_assign rfl rfl) ?_
              refine WL_nil ?_
              refine WQ_code ?_
              refine WC_ret ?_
              refine WQ_ret rfl rfl (.cons (.cell (vs := [_, _, _]) rfl ag143 (mmZ) rfl (atZ)) (.cons (.tmp rfl) .nil)) rfl (by
                  have he := getE_ok hm hd hw hdl
                  have hg9 := get_use he hne
                  exact ⟨m, by rw [hg9.2, he]; rfl, by rw [hg9.1], rfl, by rw [hg9.1]; exact h0.set (Nat.zero_le _) (⟨by decide, by decide⟩ : (0 : Int) ≤ 2 ∧ (2 : Int) ≤ 3)⟩) (pqZ)
            · have hni : allI 3 s.C = [] := List.eq_nil_of_length_eq_zero (by have h9 : ¬ ((allI 3 s.C).length : Int) > 0 := c5; omega)
              refine WC_skip ?_
              refine WQ_code ?_
              refine WC_seq ?_
              refine WC_seq ?_
              refine WC_region ?_
              refine WL_val rfl rfl rfl (R_load rfl sc79 rfl (mmZ) rfl) ?_
              refine WL_do rfl rfl rfl (D_call (proom_ok h0) rfl rfl rfl rfl (pqZ)) ?_
              rintro _ _ ⟨_, ⟨rfl, rfl⟩, rfl⟩
              refine WL_nil ?_
              refine WQ_code ?_
              refine WC_if rfl (fun c6 => ?_) (fun c6 => ?_)
              · have hr : s.room = true := c6
                refine WC_seq ?_
                refine WC_draw ([⟨some b1, cl [ptrP m.p] 79⟩, ⟨some b2, cl [.int .i64 who] 3⟩]) [(0, true), (1, true), (2, true), (3, false), (4, true), (5, false), (6, true)] followsMixed rfl rfl (by kernel_rfl) pqZ ?_
                refine WM_val rfl rfl rfl rfl (R_load rfl sc3 rfl (mmZ) rfl) ?_
                refine WM_val rfl rfl rfl rfl (R_load rfl sc79 rfl (mmZ) rfl) ?_
                refine WM_val rfl rfl rfl rfl (R_load rfl sc3 rfl (mmZ) rfl) ?_
                refine WM_do rfl rfl rfl rfl (D_call (pdial_ok h0 who (PS.room_ne (s := s) hr h.cl h.op.2)) rfl rfl rfl rfl (pqZ)) ?_
                rintro _ _ ⟨_, ⟨rfl, rfl⟩, rfl⟩
                refine ⟨⟨_, pqZ⟩, ?_⟩
                refine WM_val rfl rfl rfl rfl (R_build rfl zv143 pl143 rfl rfl) ?_
                refine WM_do0 rfl rfl rfl (D_store (vs := [_, _, _]) rfl Tryz.sizeOf143 rfl rfl rfl rfl rfl (plZ) (by exact Nat.le_of_ble_eq_true rfl)) ?_
                rintro _ _ rfl
                refine ⟨⟨_, pqZ⟩, ?_⟩
                refine WM_val rfl rfl rfl rfl (R_assign rfl rfl) ?_
                refine WM_nil ?_
                refine WQ_code ?_
                refine WC_ret ?_
                refine WQ_ret rfl rfl (.cons (.cell (vs := [_, _, _]) rfl ag143 (mmZ) rfl (atZ)) (.cons (.tmp rfl) .nil)) rfl (by
                    have he := getE_ok hm hd hw hdl
                    have hg9 := get_dial he hni hr
                    exact ⟨m, by rw [hg9.2, he]; rfl, by rw [hg9.1], rfl, by rw [hg9.1]; exact h0.dial who⟩) (pqZ)
              · have hr : s.room = false := c6
                refine WC_skip ?_
                refine WQ_code ?_
                refine WC_seq ?_
                refine WC_draw ([⟨some b1, cl [ptrP m.p] 79⟩, ⟨some b2, cl [.int .i64 who] 3⟩, poP m (s.at_ now)]) [(0, true), (1, true), (2, true), (3, true), (4, true), (5, false), (6, true), (7, true), (8, true), (9, true), (10, true)] followsMixed rfl rfl (by kernel_rfl) pqZ ?_
                refine WM_val rfl rfl rfl rfl (R_load rfl sc79 rfl (mmZ) rfl) ?_
                refine WM_val rfl rfl rfl rfl (R_nilCheck rfl rfl) ?_
                refine WM_val rfl rfl rfl rfl (R_fieldAddr rfl fa136_5 rfl) ?_
                refine WM_val rfl rfl rfl rfl (R_load (v := ptrQ m.q) rfl sc127 rfl (mmZ) (pc_t h.cl rfl 0)) ?_
                refine WM_val rfl rfl rfl rfl (R_load rfl sc3 rfl (mmZ) rfl) ?_
                refine WM_do rfl rfl rfl rfl (D_call (qpush_ok m.q m.qm (fq s.Q) s.n m.qes m.qmc h.qk h.qM (by rw [List.length_map]; omega) hn who) rfl rfl rfl rfl (pqZ)) ?_
                rintro _ _ ⟨_, ⟨es1, mc1, rfl, rfl, hM1⟩, rfl⟩
                refine ⟨⟨_, pqZ⟩, ?_⟩
                rw [← fq_app s.Q ⟨s.n + 1, who, dl⟩] at hM1 ⊢
                refine WM_val rfl rfl rfl rfl (R_move rfl rfl) ?_
                refine WM_val rfl rfl rfl rfl (R_extract rfl rfl rfl) ?_
                refine WM_val rfl rfl rfl rfl (R_extract rfl rfl rfl) ?_
                refine WM_val rfl rfl rfl rfl (R_assign rfl rfl) ?_
                refine WM_val rfl rfl rfl rfl (R_assign rfl rfl) ?_
                refine WM_nil ?_
                refine WQ_code ?_
                refine WC_seq ?_
                refine WC_draw ([⟨some b1, cl [ptrP m.p] 79⟩, ⟨some b2, cl [.int .i64 who] 3⟩, poP m (s.at_ now)]) [(0, true), (1, true), (2, true), (3, true), (4, true), (5, true), (6, true), (7, true), (8, false)] followsMixed rfl rfl (by kernel_rfl) pqZ ?_
                refine WM_val rfl rfl rfl rfl (R_load rfl sc79 rfl (mmZ) rfl) ?_
                refine WM_val rfl rfl rfl rfl (R_nilCheck rfl rfl) ?_
                refine WM_val rfl rfl rfl rfl (R_fieldAddr rfl fa136_6 rfl) ?_
                refine WM_val rfl rfl rfl rfl (R_load (v := .map (some m.wm)) rfl sc129 rfl (mmZ) (pc_t h.cl rfl 1)) ?_
                refine WM_val rfl rfl rfl rfl (R_load rfl sc3 rfl (mmZ) rfl) ?_
                refine WM_val rfl rfl rfl rfl (R_move rfl rfl) ?_
                refine WM_val rfl rfl rfl rfl (R_move rfl rfl) ?_
                refine WM_val rfl rfl rfl rfl (R_build rfl zv168 pl168 rfl rfl) ?_
                refine WM_do0 rfl rfl rfl (D_mapAddK (k := who) (v := (s.n + 1, dl)) rfl Tryz.underlying129 int_key rfl rfl rfl plZ h.wM hno) ?_
                rintro _ _ ⟨es9, hM9, rfl⟩
                refine ⟨⟨_, pqZ⟩, ?_⟩
                refine WM_nil ?_
                refine WQ_code ?_
                refine WC_seq ?_
                refine WC_region ?_
                refine WL_val rfl rfl rfl (R_load rfl sc3 rfl (mmZ) rfl) ?_
                refine WL_val rfl rfl rfl (R_build rfl zv143 pl143 rfl rfl) ?_
                refine WL_do0 rfl rfl (D_store (vs := [_, _, _]) rfl Tryz.sizeOf143 rfl rfl rfl rfl rfl (plZ) (by exact Nat.le_of_ble_eq_true rfl)) ?_
                rintro _ _ rfl
                refine WL_val rfl rfl rfl (R_assign rfl rfl) ?_
                refine WL_nil ?_
                refine WQ_code ?_
                refine WC_ret ?_
                refine WQ_ret rfl rfl (.cons (.cell (vs := [_, _, _]) rfl ag143 (mmZ) rfl (atZ)) (.cons (.tmp rfl) .nil)) rfl (by
                    have he := getE_ok hm hd hw hdl
                    have hg9 := get_wait he hni hr
                    exact ⟨{ m with qes := es1, qmc := mc1, wes := es9, wmc := m.wmc + 1 }, by rw [hg9.2, he]; rfl, by rw [hg9.1], rfl, by rw [hg9.1]; exact h0.push (of_decide_eq_true (may_zero hm).1) hM1 hM9⟩) (pqZ)
  · have hg := c1
    refine WL_skip rfl rfl rfl ?_
    refine WL_skip rfl rfl rfl ?_
    refine WL_val rfl rfl rfl (R_pickF rfl rfl rfl) ?_
    refine WL_val rfl rfl rfl (R_move rfl rfl) ?_
    refine WL_set (s := 24) (v := .bool (decide (0 ≤ who ∧ who ≤ 1000))) rfl (by first | exact congrArg Value.bool (decide_eq_decide.2 (by omega)) | exact congrArg Value.bool (decide_eq_false (by omega)).symm) ?_
    refine WL_do rfl rfl rfl (D_call (pmay_ok h (decide (0 ≤ who ∧ who ≤ 1000)) now) rfl rfl rfl rfl (pqZ)) ?_
    rintro _ _ ⟨_, ⟨rfl, rfl⟩, rfl⟩
    refine WL_val rfl rfl rfl (R_assign rfl rfl) ?_
    refine WL_nil ?_
    refine WQ_code ?_
    refine WC_seq ?_
    refine WC_block ?_
    refine WC_seq ?_
    refine WC_region ?_
    refine WL_val rfl rfl rfl (R_move rfl rfl) ?_
    refine WL_val rfl rfl rfl (R_neq rfl rfl rfl) ?_
    refine WL_val rfl rfl rfl (R_assign rfl rfl) ?_
    refine WL_nil ?_
    refine WQ_code ?_
    refine WC_dec rfl (fun c7 => ?_) (fun c7 => ?_)
    · have hm := c7
      refine WC_seq ?_
      refine WC_region ?_
      refine WL_val rfl rfl rfl (R_build rfl zv143 pl143 rfl rfl) ?_
      refine WL_val rfl rfl rfl (R_move rfl rfl) ?_
      refine WL_do0 rfl rfl (D_store (vs := [_, _, _]) rfl Tryz.sizeOf143 rfl rfl rfl rfl rfl (plZ) (by exact Nat.le_of_ble_eq_true rfl)) ?_
      rintro _ _ rfl
      refine WL_val rfl rfl rfl (R_assign rfl rfl) ?_
      refine WL_nil ?_
      refine WQ_code ?_
      refine WC_ret ?_
      refine WQ_ret rfl rfl (.cons (.cell (vs := [_, _, _]) rfl ag143 (mmZ) rfl (atZ)) (.cons (.tmp rfl) .nil)) rfl (by
          have he : getE_ s who now dl = _ := getE_may hm
          have hg9 := get_err (s := s) (who := who) (now := now) (dl := dl) (by rw [he]; exact hm)
          exact ⟨m, by rw [hg9.2, he]; rfl, by rw [hg9.1], rfl, by rw [hg9.1]; exact h⟩) (pqZ)
    · have hm : s.may (decide (0 ≤ who ∧ who ≤ 1000)) now = 0 := Decidable.byContradiction c7
      refine WC_seq ?_
      refine WC_region ?_
      refine WL_val rfl rfl rfl (R_move rfl rfl) ?_
      refine WL_val rfl rfl rfl (R_move rfl rfl) ?_
      refine WL_val rfl rfl rfl (R_leq rfl rfl rfl) ?_
      refine WL_val rfl rfl rfl (R_assign rfl rfl) ?_
      refine WL_nil ?_
      refine WQ_code ?_
      refine WC_dec rfl (fun c8 => ?_) (fun c8 => ?_)
      · have hd : dl ≤ now := by omega
        refine WC_seq ?_
        refine WC_region ?_
        refine WL_val rfl rfl rfl (R_build rfl zv143 pl143 rfl rfl) ?_
        refine WL_do0 rfl rfl (D_store (vs := [_, _, _]) rfl Tryz.sizeOf143 rfl rfl rfl rfl rfl (plZ) (by exact Nat.le_of_ble_eq_true rfl)) ?_
        rintro _ _ rfl
        refine WL_val rfl rfl rfl (R_assign rfl rfl) ?_
        refine WL_nil ?_
        refine WQ_code ?_
        refine WC_ret ?_
        refine WQ_ret rfl rfl (.cons (.cell (vs := [_, _, _]) rfl ag143 (mmZ) rfl (atZ)) (.cons (.tmp rfl) .nil)) rfl (by
            have he : getE_ s who now dl = _ := getE_late hm hd
            have hg9 := get_err (s := s) (who := who) (now := now) (dl := dl) (by rw [he]; decide)
            exact ⟨m, by rw [hg9.2, he]; rfl, by rw [hg9.1], rfl, by rw [hg9.1]; exact h⟩) (pqZ)
      · have hd : ¬ dl ≤ now := by omega
        rcases waits_or s who with ⟨A, x, B, hQ, rfl⟩ | ⟨hw, hno⟩
        · refine WC_skip ?_
          refine WQ_code ?_
          refine WC_seq ?_
          refine WC_draw _ [(0, true), (1, true), (2, true), (3, true), (4, true), (5, true), (6, true), (7, true), (8, true), (9, false), (10, false), (11, true)] followsMixed rfl rfl (by kernel_rfl) .all ?_
          refine WM_val rfl rfl rfl rfl (R_load rfl sc79 rfl (mmZ) rfl) ?_
          refine WM_val rfl rfl rfl rfl (R_nilCheck rfl rfl) ?_
          refine WM_val rfl rfl rfl rfl (R_fieldAddr rfl fa136_6 rfl) ?_
          refine WM_val rfl rfl rfl rfl (R_load (v := .map (some m.wm)) rfl sc129 rfl (mmZ) (pc_t h.cl rfl 1)) ?_
          refine WM_val rfl rfl rfl rfl (R_load rfl sc3 rfl (mmZ) rfl) ?_
          refine WM_val rfl rfl rfl rfl (R_lookKT (k := x.who) (a := (x.t, x.dl)) rfl Tryz.underlying129 int_key rfl rfl mmZ h.wM (by rw [hQ]; exact List.mem_map_of_mem (List.mem_append_right _ (List.mem_cons_self ..)))) ?_
          refine WM_val rfl rfl rfl rfl (R_move rfl rfl) ?_
          refine WM_val rfl rfl rfl rfl (R_extract rfl rfl rfl) ?_
          refine WM_val rfl rfl rfl rfl (R_extract rfl rfl rfl) ?_
          refine WM_set (s := 45) (v := .bool true) rfl (by rfl) ?_
          refine WM_do rfl rfl rfl rfl (D_alloc rfl zv168) ?_
          rintro _ _ ⟨b6, rfl, rfl⟩
          refine ⟨⟨_, pqZ⟩, ?_⟩
          refine WM_do0 rfl rfl rfl (D_store (vs := [_, _]) rfl Tryz.sizeOf168 rfl rfl rfl rfl rfl (plZ) (by exact Nat.le_of_ble_eq_true rfl)) ?_
          rintro _ _ rfl
          refine ⟨⟨_, pqZ⟩, ?_⟩
          refine WM_val rfl rfl rfl rfl (R_assign rfl rfl) ?_
          refine WM_nil ?_
          refine WQ_code ?_
          refine WC_seq ?_
          refine WC_seq ?_
          refine WC_region ?_
          refine WL_val rfl rfl rfl (R_move rfl rfl) ?_
          refine WL_val rfl rfl rfl (R_move rfl rfl) ?_
          refine WL_skip rfl rfl rfl ?_
          refine WL_skip rfl rfl rfl ?_
          refine WL_skip rfl rfl rfl ?_
          refine WL_skip rfl rfl rfl ?_
          refine WL_skip rfl rfl rfl ?_
          refine WL_skip rfl rfl rfl ?_
          refine WL_val rfl rfl rfl (R_pickT rfl rfl rfl) ?_
          refine WL_nil ?_
          refine WQ_code ?_
          refine WC_T rfl ?_
          refine WC_seq ?_
          refine WC_region ?_
          refine WL_val rfl rfl rfl (R_build rfl zv143 pl143 rfl rfl) ?_
          refine WL_do0 rfl rfl (D_store (vs := [_, _, _]) rfl Tryz.sizeOf143 rfl rfl rfl rfl rfl (plZ) (by exact Nat.le_of_ble_eq_true rfl)) ?_
          rintro _ _ rfl
          refine WL_val rfl rfl rfl (R_assign rfl rfl) ?_
          refine WL_nil ?_
          refine WQ_code ?_
          refine WC_ret ?_
          refine WQ_ret rfl rfl (.cons (.cell (vs := [_, _, _]) rfl ag143 (mmZ) rfl (atZ)) (.cons (.tmp rfl) .nil)) rfl (by
              have he := getE_busy hm hd (.inl (waits_in hQ))
              have hg9 := get_err (by rw [he]; decide)
              exact ⟨m, by rw [hg9.2, he]; rfl, by rw [hg9.1], rfl, by rw [hg9.1]; exact h⟩) (pqZ)
        · refine WC_skip ?_
          refine WQ_code ?_
          refine WC_seq ?_
          refine WC_draw _ [(0, true), (1, true), (2, true), (3, true), (4, true), (5, true), (6, true), (7, true), (8, true), (9, false), (10, false), (11, true)] followsMixed rfl rfl (by kernel_rfl) .all ?_
          refine WM_val rfl rfl rfl rfl (R_load rfl sc79 rfl (mmZ) rfl) ?_
          refine WM_val rfl rfl rfl rfl (R_nilCheck rfl rfl) ?_
          refine WM_val rfl rfl rfl rfl (R_fieldAddr rfl fa136_6 rfl) ?_
          refine WM_val rfl rfl rfl rfl (R_load (v := .map (some m.wm)) rfl sc129 rfl (mmZ) (pc_t h.cl rfl 1)) ?_
          refine WM_val rfl rfl rfl rfl (R_load rfl sc3 rfl (mmZ) rfl) ?_
          refine WM_val rfl rfl rfl rfl (R_lookKF (k := who) (zv := .agg #[.int .u64 0, .int .u64 0]) rfl Tryz.underlying129 int_key rfl rfl mmZ h.wM hno (fun w => Tryz.zeroValue168 w)) ?_
          refine WM_val rfl rfl rfl rfl (R_move rfl rfl) ?_
          refine WM_val rfl rfl rfl rfl (R_extract rfl rfl rfl) ?_
          refine WM_val rfl rfl rfl rfl (R_extract rfl rfl rfl) ?_
          refine WM_set (s := 45) (v := .bool false) rfl (by rfl) ?_
          refine WM_do rfl rfl rfl rfl (D_alloc rfl zv168) ?_
          rintro _ _ ⟨b7, rfl, rfl⟩
          refine ⟨⟨_, pqZ⟩, ?_⟩
          refine WM_do0 rfl rfl rfl (D_store (vs := [_, _]) rfl Tryz.sizeOf168 rfl rfl rfl rfl rfl (plZ) (by exact Nat.le_of_ble_eq_true rfl)) ?_
          rintro _ _ rfl
          refine ⟨⟨_, pqZ⟩, ?_⟩
          refine WM_val rfl rfl rfl rfl (R_assign rfl rfl) ?_
          refine WM_nil ?_
          refine WQ_code ?_
          refine WC_seq ?_
          refine WC_seq ?_
          refine WC_region ?_
          refine WL_val rfl rfl rfl (R_move rfl rfl) ?_
          refine WL_val rfl rfl rfl (R_move rfl rfl) ?_
          refine WL_val rfl rfl rfl (R_load rfl sc79 rfl (mmZ) rfl) ?_
          refine WL_val rfl rfl rfl (R_nilCheck rfl rfl) ?_
          refine WL_val rfl rfl rfl (R_fieldAddr rfl fa136_4 rfl) ?_
          refine WL_val rfl rfl rfl (R_sliceArr rfl Tryz.underlying133 Tryz.sizeOf132 rfl) ?_
          refine WL_val rfl rfl rfl (R_makeFunc rfl rfl rfl) ?_
          refine WL_do rfl rfl rfl (D_call (ccon_ok h b2 who) rfl rfl rfl rfl (pqZ)) ?_
          rintro _ _ ⟨_, ⟨rfl, rfl⟩, rfl⟩
          refine WL_val rfl rfl rfl (R_pickF rfl rfl rfl) ?_
          refine WL_nil ?_
          refine WQ_code ?_
          refine WC_if rfl (fun c9 => ?_) (fun c9 => ?_)
          · have hdl := c9
            refine WC_seq ?_
            refine WC_region ?_
            refine WL_val rfl rfl rfl (R_build rfl zv143 pl143 rfl rfl) ?_
            refine WL_do0 rfl rfl (D_store (vs := [_, _, _]) rfl Tryz.sizeOf143 rfl rfl rfl rfl rfl (plZ) (by exact Nat.le_of_ble_eq_true rfl)) ?_
            rintro _ _ rfl
            refine WL_val rfl rfl rfl (R_assign rfl rfl) ?_
            refine WL_nil ?_
            refine WQ_code ?_
            refine WC_ret ?_
            refine WQ_ret rfl rfl (.cons (.cell (vs := [_, _, _]) rfl ag143 (mmZ) rfl (atZ)) (.cons (.tmp rfl) .nil)) rfl (by
                have he := getE_busy hm hd (.inr hdl)
                have hg9 := get_err (by rw [he]; decide)
                exact ⟨m, by rw [hg9.2, he]; rfl, by rw [hg9.1], rfl, by rw [hg9.1]; exact h⟩) (pqZ)
          · have hdl := c9
            refine WC_skip ?_
            refine WQ_code ?_
            refine WC_seq ?_
            refine WC_seq ?_
            refine WC_region ?_
            refine WL_val rfl rfl rfl (R_load rfl sc79 rfl (mmZ) rfl) ?_
            refine WL_do rfl rfl rfl (D_call (pfull_ok h hE) rfl rfl rfl rfl (pqZ)) ?_
            rintro _ _ ⟨_, ⟨rfl, rfl⟩, rfl⟩
            refine WL_val rfl rfl rfl (R_assign rfl rfl) ?_
            refine WL_nil ?_
            refine WQ_code ?_
            refine WC_seq ?_
            refine WC_region ?_
            refine WL_val rfl rfl rfl (R_move rfl rfl) ?_
            refine WL_val rfl rfl rfl (R_neq rfl rfl rfl) ?_
            refine WL_nil ?_
            refine WQ_code ?_
            refine WC_dF rfl (by simp) ?_
            refine WC_skip ?_
            refine WQ_code ?_
            refine WC_seq ?_
            refine WC_region ?_
            refine WL_val rfl rfl rfl (R_load rfl sc79 rfl (mmZ) rfl) ?_
            refine WL_val rfl rfl rfl (R_move rfl rfl) ?_
            refine WL_val rfl rfl rfl (R_nilCheck rfl rfl) ?_
            refine WL_val rfl rfl rfl (R_fieldAddr rfl fa136_3 rfl) ?_
            refine WL_do0 rfl rfl (D_store (vs := [_]) rfl Tryz.sizeOf25 rfl rfl rfl rfl rfl (plZ) (by exact pc_nowr m s)) ?_
            rintro _ _ rfl
            rw [pc_now]
            have h0 := h.canc _ hm hb
            refine WL_nil ?_
            refine WQ_code ?_
            refine WC_seq ?_
            refine WC_seq ?_
            refine WC_region ?_
            refine WL_val rfl rfl rfl (R_load rfl sc79 rfl (mmZ) rfl) ?_
            refine WL_do rfl rfl rfl (D_call (pall_ok h0 3) rfl rfl rfl rfl (pqZ)) ?_
            rintro _ _ ⟨_, ⟨o9, c9, tl9, rfl, own9, rfl⟩, rfl⟩
            refine WL_val rfl rfl rfl (R_assign rfl rfl) ?_
            refine WL_nil ?_
            refine WQ_code ?_
            refine WC_seq ?_
            refine WC_region ?_
            refine WL_val rfl rfl rfl (R_move rfl rfl) ?_
            refine WL_val rfl rfl rfl (R_len rfl Tryz.underlying23 rfl) ?_
            refine WL_val rfl rfl rfl (R_gtr rfl rfl rfl) ?_
            refine WL_nil ?_
            refine WQ_code ?_
            refine WC_dec rfl (fun c10 => ?_) (fun c10 => ?_)
            · have hl := c10
              refine WC_seq ?_
              refine WC_region ?_
              have hne : allI 3 s.C ≠ [] := fun e => by have h9 : ((allI 3 s.C).length : Int) > 0 := hl; rw [e] at h9; simp at h9
              obtain ⟨kl, xl, hkl, hxl, hkl2, _⟩ := last_mem hne
              rw [h.cl] at hkl2
              refine WL_val rfl rfl rfl (R_move rfl rfl) ?_
              refine WL_val rfl rfl rfl (R_makeFunc rfl rfl rfl) ?_
              refine WL_do rfl rfl rfl (D_call (maxf_ok (allI 3 s.C) o9 c9 tl9 own9 119 [.pointer (some ⟨b1, 0, none⟩)] [⟨some b1, cl [ptrP m.p] 79⟩, poP m (s.at_ now)] (idleC s.C) (fun a ha b hb => pget2_ok h0 b1 a b ha hb) (by show 1 ≤ (allI 3 s.C).length; exact List.length_pos_iff.2 hne) (by show (allI 3 s.C).length ≤ _; omega)) rfl rfl rfl rfl (pqZ)) ?_
              rintro _ _ ⟨_, ⟨rfl, rfl⟩, rfl⟩
              refine WL_val rfl rfl rfl (R_assign rfl rfl) ?_
              refine WL_nil ?_
              refine WQ_code ?_
              refine WC_seq ?_
              refine WC_region ?_
              refine WL_val rfl rfl rfl (R_load rfl sc79 rfl (mmZ) rfl) ?_
              refine WL_val rfl rfl rfl (R_move rfl rfl) ?_
              refine WL_val rfl rfl rfl (R_build rfl zv132 pl132 rfl rfl) ?_
              refine WL_val rfl rfl rfl (R_nilCheck rfl rfl) ?_
              refine WL_val rfl rfl rfl (R_fieldAddr rfl fa136_4 rfl) ?_
              refine WL_val rfl rfl rfl (R_indexAddrA rfl Tryz.underlying133 Tryz.sizeOf132 rfl rfl (by exact ⟨by show 0 ≤ s.last; omega, by show s.last < 64; omega⟩)) ?_
              refine WL_do0 rfl rfl (D_store (vs := [_, _, _]) rfl Tryz.sizeOf132 rfl rfl rfl rfl rfl (plZ) (by exact pc_room h.cl rfl (i := s.last.toNat) (by omega))) ?_
              rintro _ _ rfl
              rw [show putAt _ _ [.int .i64 (2), .int .i64 (0), .int .u64 (0)] = _ from pc_put (A := pcH _) rfl (y := ⟨2, 0, 0⟩) (show (s.at_ now).C[s.last.toNat]? = some xl from hxl) rfl]
              refine WL_nil ?_
              refine WQ_code ?_
              refine WC_seq ?_
              refine WC_region ?_
              refine WL_val rfl rfl rfl (R_load rfl sc3 rfl (mmZ) rfl) ?_
              refine WL_val rfl rfl rfl (R_move rfl rfl) ?_
              refine WL_val rfl rfl rfl (R_build rfl zv143 pl143 rfl rfl) ?_
              refine WL_do0 rfl rfl (D_store (vs := [_, _, _]) rfl Tryz.sizeOf143 rfl rfl rfl rfl rfl (plZ) (by exact Nat.le_of_ble_eq_true rfl)) ?_
              rintro _ _ rfl
              refine WL_val rfl rfl rfl (R_assign rfl rfl) ?_
              refine WL_nil ?_
              refine WQ_code ?_
              refine WC_ret ?_
              refine WQ_ret rfl rfl (.cons (.cell (vs := [_, _, _]) rfl ag143 (mmZ) rfl (atZ)) (.cons (.tmp rfl) .nil)) rfl (by
                  have he := getE_ok hm hd hw hdl
                  have hg9 := get_use he hne
                  exact ⟨m, by rw [hg9.2, he]; rfl, by rw [hg9.1], rfl, by rw [hg9.1]; exact h0.set (Nat.zero_le _) (⟨by decide, by decide⟩ : (0 : Int) ≤ 2 ∧ (2 : Int) ≤ 3)⟩) (pqZ)
            · have hni : allI 3 s.C = [] := List.eq_nil_of_length_eq_zero (by have h9 : ¬ ((allI 3 s.C).length : Int) > 0 := c10; omega)
              refine WC_skip ?_
              refine WQ_code ?_
              refine WC_seq ?_
              refine WC_seq ?_
              refine WC_region ?_
              refine WL_val rfl rfl rfl (R_load rfl sc79 rfl (mmZ) rfl) ?_
              refine WL_do rfl rfl rfl (D_call (proom_ok h0) rfl rfl rfl rfl (pqZ)) ?_
              rintro _ _ ⟨_, ⟨rfl, rfl⟩, rfl⟩
              refine WL_nil ?_
              refine WQ_code ?_
              refine WC_if rfl (fun c11 => ?_) (fun c11 => ?_)
              · have hr : s.room = true := c11
                refine WC_seq ?_
                refine WC_draw ([⟨some b1, cl [ptrP m.p] 79⟩, ⟨some b2, cl [.int .i64 who] 3⟩]) [(0, true), (1, true), (2, true), (3, false), (4, true), (5, false), (6, true)] followsMixed rfl rfl (by kernel_rfl) pqZ ?_
                refine WM_val rfl rfl rfl rfl (R_load rfl sc3 rfl (mmZ) rfl) ?_
                refine WM_val rfl rfl rfl rfl (R_load rfl sc79 rfl (mmZ) rfl) ?_
                refine WM_val rfl rfl rfl rfl (R_load rfl sc3 rfl (mmZ) rfl) ?_
                refine WM_do rfl rfl rfl rfl (D_call (pdial_ok h0 who (PS.room_ne (s := s) hr h.cl h.op.2)) rfl rfl rfl rfl (pqZ)) ?_
                rintro _ _ ⟨_, ⟨rfl, rfl⟩, rfl⟩
                refine ⟨⟨_, pqZ⟩, ?_⟩
                refine WM_val rfl rfl rfl rfl (R_build rfl zv143 pl143 rfl rfl) ?_
                refine WM_do0 rfl rfl rfl (D_store (vs := [_, _, _]) rfl Tryz.sizeOf143 rfl rfl rfl rfl rfl (plZ) (by exact Nat.le_of_ble_eq_true rfl)) ?_
                rintro _ _ rfl
                refine ⟨⟨_, pqZ⟩, ?_⟩
                refine WM_val rfl rfl rfl rfl (R_assign rfl rfl) ?_
                refine WM_nil ?_
                refine WQ_code ?_
                refine WC_ret ?_
                refine WQ_ret rfl rfl (.cons (.cell (vs := [_, _, _]) rfl ag143 (mmZ) rfl (atZ)) (.cons (.tmp rfl) .nil)) rfl (by
                    have he := getE_ok hm hd hw hdl
                    have hg9 := get_dial he hni hr
                    exact ⟨m, by rw [hg9.2, he]; rfl, by rw [hg9.1], rfl, by rw [hg9.1]; exact h0.dial who⟩) (pqZ)
              · have hr : s.room = false := c11
                refine WC_skip ?_
                refine WQ_code ?_
                refine WC_seq ?_
                refine WC_draw ([⟨some b1, cl [ptrP m.p] 79⟩, ⟨some b2, cl [.int .i64 who] 3⟩, poP m (s.at_ now)]) [(0, true), (1, true), (2, true), (3, true), (4, true), (5, false), (6, true), (7, true), (8, true), (9, true), (10, true)] followsMixed rfl rfl (by kernel_rfl) pqZ ?_
                refine WM_val rfl rfl rfl rfl (R_load rfl sc79 rfl (mmZ) rfl) ?_
                refine WM_val rfl rfl rfl rfl (R_nilCheck rfl rfl) ?_
                refine WM_val rfl rfl rfl rfl (R_fieldAddr rfl fa136_5 rfl) ?_
                refine WM_val rfl rfl rfl rfl (R_load (v := ptrQ m.q) rfl sc127 rfl (mmZ) (pc_t h.cl rfl 0)) ?_
                refine WM_val rfl rfl rfl rfl (R_load rfl sc3 rfl (mmZ) rfl) ?_
                refine WM_do rfl rfl rfl rfl (D_call (qpush_ok m.q m.qm (fq s.Q) s.n m.qes m.qmc h.qk h.qM (by rw [List.length_map]; omega) hn who) rfl rfl rfl rfl (pqZ)) ?_
                rintro _ _ ⟨_, ⟨es1, mc1, rfl, rfl, hM1⟩, rfl⟩
                refine ⟨⟨_, pqZ⟩, ?_⟩
                rw [← fq_app s.Q ⟨s.n + 1, who, dl⟩] at hM1 ⊢
                refine WM_val rfl rfl rfl rfl (R_move rfl rfl) ?_
                refine WM_val rfl rfl rfl rfl (R_extract rfl rfl rfl) ?_
                refine WM_val rfl rfl rfl rfl (R_extract rfl rfl rfl) ?_
                refine WM_val rfl rfl rfl rfl (R_assign rfl rfl) ?_
                refine WM_val rfl rfl rfl rfl (R_assign rfl rfl) ?_
                refine WM_nil ?_
                refine WQ_code ?_
                refine WC_seq ?_
                refine WC_draw ([⟨some b1, cl [ptrP m.p] 79⟩, ⟨some b2, cl [.int .i64 who] 3⟩, poP m (s.at_ now)]) [(0, true), (1, true), (2, true), (3, true), (4, true), (5, true), (6, true), (7, true), (8, false)] followsMixed rfl rfl (by kernel_rfl) pqZ ?_
                refine WM_val rfl rfl rfl rfl (R_load rfl sc79 rfl (mmZ) rfl) ?_
                refine WM_val rfl rfl rfl rfl (R_nilCheck rfl rfl) ?_
                refine WM_val rfl rfl rfl rfl (R_fieldAddr rfl fa136_6 rfl) ?_
                refine WM_val rfl rfl rfl rfl (R_load (v := .map (some m.wm)) rfl sc129 rfl (mmZ) (pc_t h.cl rfl 1)) ?_
                refine WM_val rfl rfl rfl rfl (R_load rfl sc3 rfl (mmZ) rfl) ?_
                refine WM_val rfl rfl rfl rfl (R_move rfl rfl) ?_
                refine WM_val rfl rfl rfl rfl (R_move rfl rfl) ?_
                refine WM_val rfl rfl rfl rfl (R_build rfl zv168 pl168 rfl rfl) ?_
                refine WM_do0 rfl rfl rfl (D_mapAddK (k := who) (v := (s.n + 1, dl)) rfl Tryz.underlying129 int_key rfl rfl rfl plZ h.wM hno) ?_
                rintro _ _ ⟨es9, hM9, rfl⟩
                refine ⟨⟨_, pqZ⟩, ?_⟩
                refine WM_nil ?_
                refine WQ_code ?_
                refine WC_seq ?_
                refine WC_region ?_
                refine WL_val rfl rfl rfl (R_load rfl sc3 rfl (mmZ) rfl) ?_
                refine WL_val rfl rfl rfl (R_build rfl zv143 pl143 rfl rfl) ?_
                refine WL_do0 rfl rfl (D_store (vs := [_, _, _]) rfl Tryz.sizeOf143 rfl rfl rfl rfl rfl (plZ) (by exact Nat.le_of_ble_eq_true rfl)) ?_
                rintro _ _ rfl
                refine WL_val rfl rfl rfl (R_assign rfl rfl) ?_
                refine WL_nil ?_
                refine WQ_code ?_
                refine WC_ret ?_
                refine WQ_ret rfl rfl (.cons (.cell (vs := [_, _, _]) rfl ag143 (mmZ) rfl (atZ)) (.cons (.tmp rfl) .nil)) rfl (by
                    have he := getE_ok hm hd hw hdl
                    have hg9 := get_wait he hni hr
                    exact ⟨{ m with qes := es1, qmc := mc1, wes := es9, wmc := m.wmc + 1 }, by rw [hg9.2, he]; rfl, by rw [hg9.1], rfl, by rw [hg9.1]; exact h0.push (of_decide_eq_true (may_zero hm).1) hM1 hM9⟩) (pqZ)
end Go.Proofs.YtelmlkdibcdebaaGreat
end
section
set_option linter.unusedVariables false
set_option maxRecDepth 20000
set_option maxHeartbeats 4000000
namespace Go.Proofs.YtelmlkdibcdebaaGreat
theorem xp_get {ms : List PM} {ss : List PS} {i : Nat} {mi : PM} {si : PS} (h1 : ms[i]? = some mi) (h2 : ss[i]? = some si) (h : PIs mi si) (hE : si.E.length ≤ 10000) (hn : si.n < 1000000000000) (who : Int) (now dl : Nat) (hb : now ≤ 18446744073709551615) :
    Spec Tryz.prog 61 [ptrP mi.p, .int .i64 who, .int .u64 (now : Int), .int .u64 (dl : Int)] (poolsH ms ss) (fun r H' => ∃ m', r = .tuple #[pvV (si.getV who now dl), .int .i64 (getE_ si who now dl)] ∧ H' = poolsH (ms.set i m') (ss.set i (si.getS who now dl)) ∧ m'.p = mi.p ∧ PIs m' (si.getS who now dl)) := by
  refine (Spec.pool h1 h2 (Q := fun r m' s' => r = .tuple #[pvV (si.getV who now dl), .int .i64 (getE_ si who now dl)] ∧ s' = si.getS who now dl ∧ m'.p = mi.p ∧ PIs m' s') ((pget_ok h hE hn who now dl hb).mono ?_)).mono ?_
  · rintro r H' ⟨m', e1, e2, e3, e4⟩
    exact ⟨m', _, e2, e1, rfl, e3, e4⟩
  · rintro r H' ⟨m', s', e1, e2, rfl, e3, e4⟩
    exact ⟨m', e2, e1, e3, e4⟩
theorem xatt_ok {N : Nat} {m : XM} {x : PX} (h : PXIs N m x) (hN : N ≤ 9000) (hE : x.E.length ≤ 1000000) (s : Ss) (hk : s.key.size ≤ 64) (hbl : x.b.last ≤ x.now) (hne : x.b.cand x.now ≠ []) {mi : PM} {si : PS} (hmi : m.pm[x.pk s]? = some mi) (hsi : x.P[x.pk s]? = some si) (hpi : x.b.pickI s.key x.now = (x.pk s : Int)) (hiE : si.E.length ≤ 10000) (hin : si.n < 1000000000000) :
    Spec Tryz.prog 33 [ptrP m.p, ptrS s.p] ([pxE m x, seE s, pxM m, pxV m x, pxQ m] ++ (balH m.bm ++ poolsH m.pm x.P)) (fun r H' => ∃ m', r = .tuple #[] ∧ H' = [pxE m' (x.attX s si), seE (x.attS s si), pxM m', pxV m' (x.attX s si), pxQ m'] ++ (balH m'.bm ++ poolsH m'.pm (x.attX s si).P) ∧ PXIs (N + 1) m' (x.attX s si) ∧ m'.p = m.p ∧ m'.sb = m.sb) := by
  have hnw := h.now
  have hpl := h.oq.len
  have hil := (List.getElem?_eq_some_iff.1 hsi).1
  obtain ⟨wq, hwq⟩ := h.oq.some_of (by omega)
  refine Spec.of (E := [(0, ptrP m.p), (1, ptrS s.p)]) Tryz.func33 rfl (by kernel_rfl) Tryz.ntmps33 rfl rfl (fun w => ?_)
  refine WC_seq ?_
  refine WC_drawBR (balH m.bm) [(0, .q), (1, .q), (2, .q), (3, .q), (4, .q), (5, .q), (6, .q), (7, .q), (8, .q), (9, .q), (10, .q), (11, .q), (12, .n [16]), (13, .q), (14, .q), (15, .q), (16, .b []), (17, .n []), (18, .q)] followsMixed rfl rfl (by kernel_rfl) (pqC) ?_
  refine WB_val rfl rfl rfl rfl (R_move rfl rfl) ?_
  refine WB_val rfl rfl rfl rfl (R_nilCheck rfl rfl) ?_
  refine WB_val rfl rfl rfl rfl (R_fieldAddr rfl fa68_0 rfl) ?_
  refine WB_val rfl rfl rfl rfl (R_load rfl sc55 rfl (mmC) rfl) ?_
  refine WB_val rfl rfl rfl rfl (R_move rfl rfl) ?_
  refine WB_val rfl rfl rfl rfl (R_nilCheck rfl rfl) ?_
  refine WB_val rfl rfl rfl rfl (R_fieldAddr rfl fa68_3 rfl) ?_
  refine WB_val rfl rfl rfl rfl (R_load rfl sc25 rfl (mmC) rfl) ?_
  refine WB_val rfl rfl rfl rfl (R_move rfl rfl) ?_
  refine WB_val rfl rfl rfl rfl (R_nilCheck rfl rfl) ?_
  refine WB_val rfl rfl rfl rfl (R_fieldAddr rfl fa90_1 rfl) ?_
  refine WB_val rfl rfl rfl rfl (R_load rfl sc9 rfl (mmC) rfl) ?_
  refine WB_do rfl rfl rfl rfl (.cons rfl rfl (B_alloc rfl zv138) .nil) (fun _ => D_call (bp_ok h.bal hN x.now s.key hk hbl hnw hne) rfl rfl rfl rfl (pqC)) ?_
  rintro _ _ ⟨_, ⟨bm1, rfl, rfl, hbp, hb1⟩, rfl⟩
  refine ⟨⟨_, pqC⟩, ?_⟩
  refine WB_val rfl rfl rfl rfl (R_move rfl rfl) ?_
  refine WB_val rfl rfl rfl rfl (R_extract rfl rfl rfl) ?_
  refine WB_val rfl rfl rfl rfl (R_extract rfl rfl rfl) ?_
  refine WB_birth rfl rfl rfl rfl .nil (B_alloc rfl zv138) (fun b1 => ?_)
  refine WB_do0 rfl rfl rfl .nil (fun _ => D_store (vs := [_, _]) rfl Tryz.sizeOf138 rfl rfl rfl rfl rfl (plC) (by exact Nat.le_of_ble_eq_true rfl)) ?_
  rintro _ _ rfl
  refine ⟨⟨_, pqC⟩, ?_⟩
  refine WB_val rfl rfl rfl rfl (R_assign rfl rfl) ?_
  refine WB_nil ?_
  refine WQ_code ?_
  refine WC_seq ?_
  refine WC_seq ?_
  refine WC_region ?_
  refine WL_val rfl rfl rfl (R_move rfl rfl) ?_
  refine WL_val rfl rfl rfl (R_neq rfl rfl rfl) ?_
  refine WL_nil ?_
  refine WQ_code ?_
  refine WC_dF rfl (by simp) ?_
  refine WC_skip ?_
  refine WQ_code ?_
  refine WC_seq ?_
  refine WC_drawR [seE s] [(0, true), (1, true), (2, true), (3, true), (4, true), (5, true), (6, true), (7, true), (8, true), (9, false), (10, true), (11, true), (12, false), (13, true), (14, true), (15, false)] followsMixed rfl rfl (by kernel_rfl) (pqC) ?_
  refine WM_val rfl rfl rfl rfl (R_move rfl rfl) ?_
  refine WM_val rfl rfl rfl rfl (R_move rfl rfl) ?_
  refine WM_val rfl rfl rfl rfl (R_move rfl rfl) ?_
  refine WM_val rfl rfl rfl rfl (R_fieldAddr rfl fa138_0 rfl) ?_
  refine WM_val rfl rfl rfl rfl (R_load rfl sc3 rfl (mmC) rfl) ?_
  refine WM_set (s := 33) (v := .int .i64 (x.pk s : Int)) rfl (by rw [hpi]) ?_
  refine WM_val rfl rfl rfl rfl (R_fieldAddr rfl fa138_1 rfl) ?_
  refine WM_val rfl rfl rfl rfl (R_load rfl sc3 rfl (mmC) rfl) ?_
  refine WM_val rfl rfl rfl rfl (R_nilCheck rfl rfl) ?_
  refine WM_val rfl rfl rfl rfl (R_fieldAddr rfl fa90_7 rfl) ?_
  refine WM_do0 rfl rfl rfl (D_store (vs := [_]) rfl Tryz.sizeOf3 rfl rfl rfl rfl rfl (plC) (by exact Nat.le_of_ble_eq_true rfl)) ?_
  rintro _ _ rfl
  refine ⟨⟨_, pqC⟩, ?_⟩
  refine WM_val rfl rfl rfl rfl (R_nilCheck rfl rfl) ?_
  refine WM_val rfl rfl rfl rfl (R_fieldAddr rfl fa90_6 rfl) ?_
  refine WM_do0 rfl rfl rfl (D_store (vs := [_]) rfl Tryz.sizeOf3 rfl rfl rfl rfl rfl (plC) (by exact Nat.le_of_ble_eq_true rfl)) ?_
  rintro _ _ rfl
  refine ⟨⟨_, pqC⟩, ?_⟩
  refine WM_val rfl rfl rfl rfl (R_nilCheck rfl rfl) ?_
  refine WM_val rfl rfl rfl rfl (R_fieldAddr rfl fa90_8 rfl) ?_
  refine WM_do0 rfl rfl rfl (D_store (vs := [_]) rfl Tryz.sizeOf3 rfl rfl rfl rfl rfl (plC) (by exact Nat.le_of_ble_eq_true rfl)) ?_
  rintro _ _ rfl
  refine ⟨⟨_, pqC⟩, ?_⟩
  refine WM_nil ?_
  refine WQ_code ?_
  refine WC_seq ?_
  refine WC_drawBR (poolsH m.pm x.P) [(0, .q), (1, .q), (2, .q), (3, .q), (4, .q), (5, .q), (6, .q), (7, .q), (8, .q), (9, .q), (10, .q), (11, .q), (12, .q), (13, .q), (14, .q), (15, .q), (16, .q), (17, .q), (18, .q), (19, .q), (20, .n [24]), (21, .q), (22, .q), (23, .q), (24, .b []), (25, .n []), (26, .q)] followsMixed rfl rfl (by kernel_rfl) (pqC) ?_
  refine WB_val rfl rfl rfl rfl (R_move rfl rfl) ?_
  refine WB_val rfl rfl rfl rfl (R_nilCheck rfl rfl) ?_
  refine WB_val rfl rfl rfl rfl (R_fieldAddr rfl fa68_1 rfl) ?_
  refine WB_val rfl rfl rfl rfl (R_load rfl sc56 rfl (mmC) rfl) ?_
  refine WB_val rfl rfl rfl rfl (R_fieldAddr rfl fa138_0 rfl) ?_
  refine WB_val rfl rfl rfl rfl (R_load rfl sc3 rfl (mmC) rfl) ?_
  refine WB_set (s := 48) (v := .int .i64 (x.pk s : Int)) rfl (by rw [hpi]) ?_
  refine WB_val rfl rfl rfl rfl (R_idxO hwq rfl Tryz.underlying56 Tryz.sizeOf79 rfl rfl (by omega)) ?_
  refine WB_val rfl rfl rfl rfl (R_loadO (v := ptrP mi.p) hwq rfl sc79 rfl (mmC) (fm_get0 encPq1 hmi (j := 0) (by omega))) ?_
  refine WB_val rfl rfl rfl rfl (R_move rfl rfl) ?_
  refine WB_val rfl rfl rfl rfl (R_nilCheck rfl rfl) ?_
  refine WB_val rfl rfl rfl rfl (R_fieldAddr rfl fa90_0 rfl) ?_
  refine WB_val rfl rfl rfl rfl (R_load rfl sc3 rfl (mmC) rfl) ?_
  refine WB_val rfl rfl rfl rfl (R_move rfl rfl) ?_
  refine WB_val rfl rfl rfl rfl (R_nilCheck rfl rfl) ?_
  refine WB_val rfl rfl rfl rfl (R_fieldAddr rfl fa68_3 rfl) ?_
  refine WB_val rfl rfl rfl rfl (R_load rfl sc25 rfl (mmC) rfl) ?_
  refine WB_val rfl rfl rfl rfl (R_move rfl rfl) ?_
  refine WB_val rfl rfl rfl rfl (R_nilCheck rfl rfl) ?_
  refine WB_val rfl rfl rfl rfl (R_fieldAddr rfl fa90_2 rfl) ?_
  refine WB_val rfl rfl rfl rfl (R_load rfl sc25 rfl (mmC) rfl) ?_
  refine WB_do rfl rfl rfl rfl (.cons rfl rfl (B_alloc rfl zv143) .nil) (fun _ => D_call (xp_get hmi hsi (h.po _ _ _ hmi hsi) hiE hin s.num x.now s.dl (by omega)) rfl rfl rfl rfl (pqC)) ?_
  rintro _ _ ⟨_, ⟨mi1, rfl, rfl, hmp, hmi1⟩, rfl⟩
  refine ⟨⟨_, pqC⟩, ?_⟩
  refine WB_val rfl rfl rfl rfl (R_move rfl rfl) ?_
  refine WB_val rfl rfl rfl rfl (R_extract rfl rfl rfl) ?_
  refine WB_val rfl rfl rfl rfl (R_extract rfl rfl rfl) ?_
  refine WB_birth rfl rfl rfl rfl .nil (B_alloc rfl zv143) (fun b2 => ?_)
  refine WB_do0 rfl rfl rfl .nil (fun _ => D_store (vs := [_, _, _]) rfl Tryz.sizeOf143 rfl rfl rfl rfl rfl (plC) (by exact Nat.le_of_ble_eq_true rfl)) ?_
  rintro _ _ rfl
  refine ⟨⟨_, pqC⟩, ?_⟩
  refine WB_val rfl rfl rfl rfl (R_assign rfl rfl) ?_
  refine WB_nil ?_
  refine WQ_code ?_
  refine WC_seq ?_
  refine WC_region ?_
  refine WL_val rfl rfl rfl (R_fieldAddr rfl fa143_0 rfl) ?_
  refine WL_val rfl rfl rfl (R_load rfl sc141 rfl (mmC) rfl) ?_
  refine WL_nil ?_
  refine WQ_code ?_
  refine WC_block ?_
  refine WC_seq ?_
  refine WC_region ?_
  refine WL_val rfl rfl rfl (R_eql rfl rfl rfl) ?_
  refine WL_val rfl rfl rfl (R_assign rfl rfl) ?_
  refine WL_nil ?_
  refine WQ_code ?_
  refine WC_dec rfl (fun c1 => ?_) (fun c1 => ?_)
  · have hk1 : (x.pv s si).k = 1 := c1
    refine WC_region ?_
    refine WL_val rfl rfl rfl (R_move rfl rfl) ?_
    refine WL_val rfl rfl rfl (R_move rfl rfl) ?_
    refine WL_val rfl rfl rfl (R_fieldAddr rfl fa143_2 rfl) ?_
    refine WL_val rfl rfl rfl (R_load rfl sc3 rfl (mmC) rfl) ?_
    refine WL_do rfl rfl rfl (D_call (xact_ok m x h.eO hE { s with be := (x.pk s : Int), cal := ((x.b.gv + 1 : Nat) : Int), cn := -1 } (x.pv s si).c) rfl rfl rfl rfl (pqC)) ?_
    rintro _ _ ⟨_, ⟨eb1, ek1, ec1, epre1, etl1, rfl, rfl, hO1⟩, rfl⟩
    refine WL_nil ?_
    rw [(attX_1 hk1).1, (attX_1 hk1).2]
    rw [pxE_attT (s := s) (si := si) (m1 := mi1) hbp, pxQ_att (bm1 := bm1) hmi hmp]
    refine WQ_ret rfl rfl .nil rfl (by
        exact ⟨attMt m x s bm1 mi1 eb1 ek1 ec1 epre1 etl1, rfl, rfl, (h.att0 hmi hmp hb1 hmi1).tell _ hO1, rfl, rfl⟩) (pqC)
  · have hk1 : ¬ (x.pv s si).k = 1 := c1
    refine WC_seq ?_
    refine WC_region ?_
    refine WL_val rfl rfl rfl (R_eql rfl rfl rfl) ?_
    refine WL_val rfl rfl rfl (R_assign rfl rfl) ?_
    refine WL_nil ?_
    refine WQ_code ?_
    refine WC_dec rfl (fun c2 => ?_) (fun c2 => ?_)
    · have hk2 : (x.pv s si).k = 2 := c2
      refine WC_region ?_
      refine WL_val rfl rfl rfl (R_move rfl rfl) ?_
      refine WL_val rfl rfl rfl (R_move rfl rfl) ?_
      refine WL_val rfl rfl rfl (R_fieldAddr rfl fa143_2 rfl) ?_
      refine WL_val rfl rfl rfl (R_load rfl sc3 rfl (mmC) rfl) ?_
      refine WL_do rfl rfl rfl (D_call (xdial_ok m x h.eO hE { s with be := (x.pk s : Int), cal := ((x.b.gv + 1 : Nat) : Int), cn := -1 } (x.pv s si).c) rfl rfl rfl rfl (pqC)) ?_
      rintro _ _ ⟨_, ⟨eb1, ek1, ec1, epre1, etl1, rfl, rfl, hO1⟩, rfl⟩
      refine WL_nil ?_
      rw [(attX_2 hk1 hk2).1, (attX_2 hk1 hk2).2]
      rw [pxE_attT (s := s) (si := si) (m1 := mi1) hbp, pxQ_att (bm1 := bm1) hmi hmp]
      refine WQ_ret rfl rfl .nil rfl (by
          exact ⟨attMt m x s bm1 mi1 eb1 ek1 ec1 epre1 etl1, rfl, rfl, (h.att0 hmi hmp hb1 hmi1).tell _ hO1, rfl, rfl⟩) (pqC)
    · have hk2 : ¬ (x.pv s si).k = 2 := c2
      refine WC_region ?_
      refine WL_val rfl rfl rfl (R_move rfl rfl) ?_
      refine WL_val rfl rfl rfl (R_nilCheck rfl rfl) ?_
      refine WL_val rfl rfl rfl (R_fieldAddr rfl fa90_4 rfl) ?_
      refine WL_do0 rfl rfl (D_store (vs := [_]) rfl Tryz.sizeOf49 rfl rfl rfl rfl rfl (plC) (by exact Nat.le_of_ble_eq_true rfl)) ?_
      rintro _ _ rfl
      refine WL_nil ?_
      rw [(attX_3 hk1 hk2).1, (attX_3 hk1 hk2).2]
      rw [pxE_att (s := s) (si := si) (m1 := mi1) hbp, pxQ_att (bm1 := bm1) hmi hmp]
      refine WQ_ret rfl rfl .nil rfl (by
          exact ⟨attM m x s bm1 mi1, rfl, rfl, h.att0 hmi hmp hb1 hmi1, rfl, rfl⟩) (pqC)
end Go.Proofs.YtelmlkdibcdebaaGreat
end
section
set_option linter.unusedVariables false
set_option maxRecDepth 20000
set_option maxHeartbeats 4000000
namespace Go.Proofs.YtelmlkdibcdebaaGreat
theorem xatt_g {N : Nat} {m : XM} {x : PX} (h : PXIs N m x) (hN : N ≤ 9000) (hE : x.E.length ≤ 1000000) (s : Ss) (hin : (s.num, s.p) ∈ sesM x.S) (hk : s.key.size ≤ 64) (ht : s.tr ≤ 1000) (hbl : x.b.last ≤ x.now) (hne : x.b.cand x.now = []) (hf : x.failE s ≠ 0) :
    Spec Tryz.prog 33 [ptrP m.p, ptrS s.p] ([pxE m x, seE s, pxM m, pxV m x] ++ balH m.bm) (fun r H' => ∃ ses eb ek ec epre etl, r = .tuple #[] ∧ H' = [pxE { m with ses := ses, eb := eb, ek := ek, ec := ec, epre := epre, etl := etl } (x.tell ⟨3, s.num, -1, -1, x.failE s⟩), seE s, pxM { m with ses := ses, eb := eb, ek := ek, ec := ec, epre := epre, etl := etl }, pxV { m with ses := ses, eb := eb, ek := ek, ec := ec, epre := epre, etl := etl } (x.tell ⟨3, s.num, -1, -1, x.failE s⟩)] ++ balH m.bm ∧ XEO { m with ses := ses, eb := eb, ek := ek, ec := ec, epre := epre, etl := etl } (x.tell ⟨3, s.num, -1, -1, x.failE s⟩) ∧ Mk ekW ptrS ses m.smc (delL (sesM x.S) s.num)) := by
  have hnw := h.now
  refine Spec.of (E := [(0, ptrP m.p), (1, ptrS s.p)]) Tryz.func33 rfl (by kernel_rfl) Tryz.ntmps33 rfl rfl (fun w => ?_)
  refine WC_seq ?_
  refine WC_drawBR (balH m.bm) [(0, .q), (1, .q), (2, .q), (3, .q), (4, .q), (5, .q), (6, .q), (7, .q), (8, .q), (9, .q), (10, .q), (11, .q), (12, .n [16]), (13, .q), (14, .q), (15, .q), (16, .b []), (17, .n []), (18, .q)] followsMixed rfl rfl (by kernel_rfl) (pqC) ?_
  refine WB_val rfl rfl rfl rfl (R_move rfl rfl) ?_
  refine WB_val rfl rfl rfl rfl (R_nilCheck rfl rfl) ?_
  refine WB_val rfl rfl rfl rfl (R_fieldAddr rfl fa68_0 rfl) ?_
  refine WB_val rfl rfl rfl rfl (R_load rfl sc55 rfl (mmC) rfl) ?_
  refine WB_val rfl rfl rfl rfl (R_move rfl rfl) ?_
  refine WB_val rfl rfl rfl rfl (R_nilCheck rfl rfl) ?_
  refine WB_val rfl rfl rfl rfl (R_fieldAddr rfl fa68_3 rfl) ?_
  refine WB_val rfl rfl rfl rfl (R_load rfl sc25 rfl (mmC) rfl) ?_
  refine WB_val rfl rfl rfl rfl (R_move rfl rfl) ?_
  refine WB_val rfl rfl rfl rfl (R_nilCheck rfl rfl) ?_
  refine WB_val rfl rfl rfl rfl (R_fieldAddr rfl fa90_1 rfl) ?_
  refine WB_val rfl rfl rfl rfl (R_load rfl sc9 rfl (mmC) rfl) ?_
  refine WB_do rfl rfl rfl rfl (.cons rfl rfl (B_alloc rfl zv138) .nil) (fun _ => D_call (bpn_ok h.bal hN x.now s.key hk hbl hnw hne) rfl rfl rfl rfl (pqC)) ?_
  rintro _ _ ⟨_, ⟨rfl, rfl⟩, rfl⟩
  refine ⟨⟨_, pqC⟩, ?_⟩
  refine WB_val rfl rfl rfl rfl (R_move rfl rfl) ?_
  refine WB_val rfl rfl rfl rfl (R_extract rfl rfl rfl) ?_
  refine WB_val rfl rfl rfl rfl (R_extract rfl rfl rfl) ?_
  refine WB_birth rfl rfl rfl rfl .nil (B_alloc rfl zv138) (fun b1 => ?_)
  refine WB_do0 rfl rfl rfl .nil (fun _ => D_store (vs := [_, _]) rfl Tryz.sizeOf138 rfl rfl rfl rfl rfl (plC) (by exact Nat.le_of_ble_eq_true rfl)) ?_
  rintro _ _ rfl
  refine ⟨⟨_, pqC⟩, ?_⟩
  refine WB_val rfl rfl rfl rfl (R_assign rfl rfl) ?_
  refine WB_nil ?_
  refine WQ_code ?_
  refine WC_seq ?_
  refine WC_seq ?_
  refine WC_region ?_
  refine WL_val rfl rfl rfl (R_move rfl rfl) ?_
  refine WL_val rfl rfl rfl (R_neq rfl rfl rfl) ?_
  refine WL_nil ?_
  refine WQ_code ?_
  refine WC_dT rfl (by decide) ?_
  refine WC_seq ?_
  refine WC_region ?_
  refine WL_val rfl rfl rfl (R_move rfl rfl) ?_
  refine WL_val rfl rfl rfl (R_move rfl rfl) ?_
  refine WL_do rfl rfl rfl (D_call (xfailed_g m x h.eO hE h.ok h.seed hnw h.mp s hin ht hf) rfl rfl rfl rfl (pqC)) ?_
  rintro _ _ ⟨_, ⟨ses1, eb1, ek1, ec1, epre1, etl1, rfl, rfl, hO1, hM1⟩, rfl⟩
  refine WL_nil ?_
  refine WQ_code ?_
  refine WC_ret ?_
  refine WQ_ret rfl rfl .nil rfl (by
      exact ⟨ses1, eb1, ek1, ec1, epre1, etl1, rfl, rfl, hO1, hM1⟩) (pqC)
theorem xatt_l {N : Nat} {m : XM} {x : PX} (h : PXIs N m x) (hN : N ≤ 9000) (s : Ss) (hk : s.key.size ≤ 64) (ht : s.tr ≤ 1000) (hbl : x.b.last ≤ x.now) (hne : x.b.cand x.now = []) (hf : x.failE s = 0) :
    Spec Tryz.prog 33 [ptrP m.p, ptrS s.p] ([pxE m x, seE s] ++ balH m.bm) (fun r H' => r = .tuple #[] ∧ H' = [pxE m x, seE (x.later s)] ++ balH m.bm) := by
  have hnw := h.now
  refine Spec.of (E := [(0, ptrP m.p), (1, ptrS s.p)]) Tryz.func33 rfl (by kernel_rfl) Tryz.ntmps33 rfl rfl (fun w => ?_)
  refine WC_seq ?_
  refine WC_drawBR (balH m.bm) [(0, .q), (1, .q), (2, .q), (3, .q), (4, .q), (5, .q), (6, .q), (7, .q), (8, .q), (9, .q), (10, .q), (11, .q), (12, .n [16]), (13, .q), (14, .q), (15, .q), (16, .b []), (17, .n []), (18, .q)] followsMixed rfl rfl (by kernel_rfl) (pqC) ?_
  refine WB_val rfl rfl rfl rfl (R_move rfl rfl) ?_
  refine WB_val rfl rfl rfl rfl (R_nilCheck rfl rfl) ?_
  refine WB_val rfl rfl rfl rfl (R_fieldAddr rfl fa68_0 rfl) ?_
  refine WB_val rfl rfl rfl rfl (R_load rfl sc55 rfl (mmC) rfl) ?_
  refine WB_val rfl rfl rfl rfl (R_move rfl rfl) ?_
  refine WB_val rfl rfl rfl rfl (R_nilCheck rfl rfl) ?_
  refine WB_val rfl rfl rfl rfl (R_fieldAddr rfl fa68_3 rfl) ?_
  refine WB_val rfl rfl rfl rfl (R_load rfl sc25 rfl (mmC) rfl) ?_
  refine WB_val rfl rfl rfl rfl (R_move rfl rfl) ?_
  refine WB_val rfl rfl rfl rfl (R_nilCheck rfl rfl) ?_
  refine WB_val rfl rfl rfl rfl (R_fieldAddr rfl fa90_1 rfl) ?_
  refine WB_val rfl rfl rfl rfl (R_load rfl sc9 rfl (mmC) rfl) ?_
  refine WB_do rfl rfl rfl rfl (.cons rfl rfl (B_alloc rfl zv138) .nil) (fun _ => D_call (bpn_ok h.bal hN x.now s.key hk hbl hnw hne) rfl rfl rfl rfl (pqC)) ?_
  rintro _ _ ⟨_, ⟨rfl, rfl⟩, rfl⟩
  refine ⟨⟨_, pqC⟩, ?_⟩
  refine WB_val rfl rfl rfl rfl (R_move rfl rfl) ?_
  refine WB_val rfl rfl rfl rfl (R_extract rfl rfl rfl) ?_
  refine WB_val rfl rfl rfl rfl (R_extract rfl rfl rfl) ?_
  refine WB_birth rfl rfl rfl rfl .nil (B_alloc rfl zv138) (fun b1 => ?_)
  refine WB_do0 rfl rfl rfl .nil (fun _ => D_store (vs := [_, _]) rfl Tryz.sizeOf138 rfl rfl rfl rfl rfl (plC) (by exact Nat.le_of_ble_eq_true rfl)) ?_
  rintro _ _ rfl
  refine ⟨⟨_, pqC⟩, ?_⟩
  refine WB_val rfl rfl rfl rfl (R_assign rfl rfl) ?_
  refine WB_nil ?_
  refine WQ_code ?_
  refine WC_seq ?_
  refine WC_seq ?_
  refine WC_region ?_
  refine WL_val rfl rfl rfl (R_move rfl rfl) ?_
  refine WL_val rfl rfl rfl (R_neq rfl rfl rfl) ?_
  refine WL_nil ?_
  refine WQ_code ?_
  refine WC_dT rfl (by decide) ?_
  refine WC_seq ?_
  refine WC_region ?_
  refine WL_val rfl rfl rfl (R_move rfl rfl) ?_
  refine WL_val rfl rfl rfl (R_move rfl rfl) ?_
  refine WL_do rfl rfl rfl (D_call (xfailed_l m x h.ok h.seed hnw s ht hf) rfl rfl rfl rfl (pqC)) ?_
  rintro _ _ ⟨_, ⟨rfl, rfl⟩, rfl⟩
  refine WL_nil ?_
  refine WQ_code ?_
  refine WC_ret ?_
  refine WQ_ret rfl rfl .nil rfl (by
      exact ⟨rfl, rfl⟩) (pqC)
end Go.Proofs.YtelmlkdibcdebaaGreat
end
section
set_option linter.unusedVariables false
set_option maxRecDepth 20000
set_option maxHeartbeats 2000000
namespace Go.Proofs.YtelmlkdibcdebaaGreat
theorem OwnS.atX {ob : Option Nat} {k n c : Nat} {pre tl : List Value} {T : List Xv} (h : OwnS ob k n c 5 pre (T.flatMap encX) tl) {i : Nat} {x : Xv} (hx : T[i]? = some x) (hi : i < n) : At (pre ++ (T.flatMap encX ++ tl)) (k + i * 5) (encX x) := fun j v hj => by
  rw [h.get encX5 hx hi (show j < 5 from (List.getElem?_eq_some_iff.1 hj).1)]; exact hj
def PX.nx (x : PX) : PX := { x with E := x.E.drop 1 }
theorem xnext_none (m : XM) (x : PX) (hE : x.E = []) : Spec Tryz.prog 20 [ptrP m.p] [pxE m x] (fun r H' => r = .tuple #[.agg #[.int .i64 0, .int .i64 0, .int .i64 0, .int .i64 0, .int .i64 0], .bool false] ∧ H' = [pxE m x]) := by
  refine Spec.of (E := [(0, ptrP m.p)]) Tryz.func20 rfl (by kernel_rfl) Tryz.ntmps20 rfl rfl (fun w => ?_)
  refine WC_seq ?_
  refine WC_region ?_
  refine WL_do rfl rfl rfl (D_alloc rfl zv63) ?_
  rintro _ _ ⟨b1, rfl, rfl⟩
  refine WL_val rfl rfl rfl (R_assign rfl rfl) ?_
  refine WL_nil ?_
  refine WQ_code ?_
  refine WC_seq ?_
  refine WC_seq ?_
  refine WC_region ?_
  refine WL_val rfl rfl rfl (R_move rfl rfl) ?_
  refine WL_val rfl rfl rfl (R_ptrEqNil rfl Tryz.underlying33 rfl) ?_
  refine WL_val rfl rfl rfl (R_move rfl rfl) ?_
  refine WL_val rfl rfl rfl (R_move rfl rfl) ?_
  refine WL_val rfl rfl rfl (R_nilCheck rfl rfl) ?_
  refine WL_val rfl rfl rfl (R_fieldAddr rfl fa68_5 rfl) ?_
  refine WL_val rfl rfl rfl (R_load rfl sc58 rfl (mmZ) rfl) ?_
  refine WL_val rfl rfl rfl (R_lenS rfl Tryz.underlying58 rfl) ?_
  refine WL_val rfl rfl rfl (R_eql rfl rfl rfl) ?_
  refine WL_val rfl rfl rfl (R_pickF rfl rfl rfl) ?_
  refine WL_nil ?_
  refine WQ_code ?_
  refine WC_dT rfl (by rw [hE]; rfl) ?_
  refine WC_seq ?_
  refine WC_region ?_
  refine WL_val rfl rfl rfl (R_build rfl zv63 pl63 rfl rfl) ?_
  refine WL_do0 rfl rfl (D_store (vs := [_, _, _, _, _]) rfl Tryz.sizeOf63 rfl rfl rfl rfl rfl (plZ) (by exact Nat.le_of_ble_eq_true rfl)) ?_
  rintro _ _ rfl
  refine WL_val rfl rfl rfl (R_assign rfl rfl) ?_
  refine WL_nil ?_
  refine WQ_code ?_
  refine WC_ret ?_
  refine WQ_ret rfl rfl (.cons (.cell (vs := [_, _, _, _, _]) rfl ag63 (mmZ) rfl (atZ)) (.cons (.tmp rfl) .nil)) rfl (by
      exact ⟨rfl, rfl⟩) (pqZ)
theorem xnext_some (m : XM) (x : PX) (hO : XEO m x) {v : Xv} {q : List Xv} (hE : x.E = v :: q) : Spec Tryz.prog 20 [ptrP m.p] [pxE m x, pxV m x]
    (fun r H' => ∃ ek ec epre, r = .tuple #[xvV v, .bool true] ∧ H' = [pxE { m with ek := ek, ec := ec, epre := epre } x.nx, pxV { m with ek := ek, ec := ec, epre := epre } x.nx] ∧ XEO { m with ek := ek, ec := ec, epre := epre } x.nx) := by
  have hnx : x.nx = { x with E := q } := by unfold PX.nx; rw [hE]; rfl
  have heO := hO
  unfold XEO at heO
  rw [hE] at heO
  obtain ⟨wb, hwb⟩ := heO.some_of (Nat.succ_pos _)
  have hlen : x.E.length = q.length + 1 := by rw [hE]; rfl
  rw [hnx]
  refine Spec.of (E := [(0, ptrP m.p)]) Tryz.func20 rfl (by kernel_rfl) Tryz.ntmps20 rfl rfl (fun w => ?_)
  refine WC_seq ?_
  refine WC_region ?_
  refine WL_do rfl rfl rfl (D_alloc rfl zv63) ?_
  rintro _ _ ⟨b1, rfl, rfl⟩
  refine WL_val rfl rfl rfl (R_assign rfl rfl) ?_
  refine WL_nil ?_
  refine WQ_code ?_
  refine WC_seq ?_
  refine WC_seq ?_
  refine WC_region ?_
  refine WL_val rfl rfl rfl (R_move rfl rfl) ?_
  refine WL_val rfl rfl rfl (R_ptrEqNil rfl Tryz.underlying33 rfl) ?_
  refine WL_val rfl rfl rfl (R_move rfl rfl) ?_
  refine WL_val rfl rfl rfl (R_move rfl rfl) ?_
  refine WL_val rfl rfl rfl (R_nilCheck rfl rfl) ?_
  refine WL_val rfl rfl rfl (R_fieldAddr rfl fa68_5 rfl) ?_
  refine WL_val rfl rfl rfl (R_load rfl sc58 rfl (mmZ) rfl) ?_
  refine WL_val rfl rfl rfl (R_lenS rfl Tryz.underlying58 rfl) ?_
  refine WL_val rfl rfl rfl (R_eql rfl rfl rfl) ?_
  refine WL_val rfl rfl rfl (R_pickF rfl rfl rfl) ?_
  refine WL_nil ?_
  refine WQ_code ?_
  refine WC_dF rfl (by omega) ?_
  refine WC_skip ?_
  refine WQ_code ?_
  refine WC_seq ?_
  refine WC_drawY [⟨some b1, _⟩, ⟨some m.p, _⟩] [(m.p, 11, sVal m.eb m.ek x.E.length m.ec)] [15] [(0, false), (1, false), (2, false), (3, false), (4, true), (5, false), (6, false), (7, false), (8, false), (9, false), (10, true)] [(11, true), (12, false), (13, true), (14, true), (15, false)] followsMixed rfl rfl (by kernel_rfl) (pqZ) (.cons (mmZ) rfl .nil) ?_
  refine WYE_val rfl rfl rfl rfl (R_move rfl rfl) ?_
  refine WYE_val rfl rfl rfl rfl (R_move rfl rfl) ?_
  refine WYE_val rfl rfl rfl rfl (R_nilCheck rfl rfl) ?_
  refine WYE_val rfl rfl rfl rfl (R_fieldAddr rfl fa68_5 rfl) ?_
  refine WYE_early rfl rfl rfl rfl rfl sc58 rfl (by repeat (first | exact List.Mem.head _ | refine List.Mem.tail _ ?_)) ?_
  refine WYE_val rfl rfl rfl rfl (R_indexS (i := 0) hwb rfl Tryz.underlying58 Tryz.sizeOf63 rfl rfl (by omega)) ?_
  refine WYE_val rfl rfl rfl rfl (R_loadAO (vs := [.int .i64 v.k, .int .i64 v.s, .int .i64 v.b, .int .i64 v.c, .int .i64 v.e]) hwb rfl ag63 rfl (mmZ) rfl (OwnS.atX hO (i := 0) (x := v) (by rw [hE]; rfl) (by omega))) ?_
  refine WYE_val rfl rfl rfl rfl (R_move rfl rfl) ?_
  refine WYE_val rfl rfl rfl rfl (R_nilCheck rfl rfl) ?_
  refine WYE_val rfl rfl rfl rfl (R_fieldAddr rfl fa68_5 rfl) ?_
  refine WYE_early rfl rfl rfl rfl rfl sc58 rfl (by repeat (first | exact List.Mem.head _ | refine List.Mem.tail _ ?_)) ?_
  refine WYE_rest ?_
  refine WY_val rfl rfl rfl rfl (R_cut1 (m := q.length) hwb rfl Tryz.underlying58 Tryz.sizeOf63 rfl rfl hlen) ?_
  refine WY_do0 rfl rfl rfl (D_store (vs := [_, _, _, _, _]) rfl Tryz.sizeOf63 rfl rfl rfl rfl rfl (plZ) (by exact Nat.le_of_ble_eq_true rfl)) ?_
  rintro _ _ rfl
  refine ⟨⟨_, pqZ⟩, .inr (.cons (mmZ) rfl .nil), ?_⟩
  refine WY_val rfl rfl rfl rfl (R_nilCheck rfl rfl) ?_
  refine WY_val rfl rfl rfl rfl (R_fieldAddr rfl fa68_5 rfl) ?_
  refine WY_do0 rfl rfl rfl (D_store (vs := [_]) rfl Tryz.sizeOf58 rfl rfl rfl rfl rfl (plZ) (by exact Nat.le_of_ble_eq_true rfl)) ?_
  rintro _ _ rfl
  refine ⟨⟨_, pqZ⟩, .inl rfl, ?_⟩
  refine WY_nil ?_
  refine WQ_code ?_
  refine WC_seq ?_
  refine WC_region ?_
  refine WL_val rfl rfl rfl (R_loadA (vs := [_, _, _, _, _]) rfl ag63 rfl (mmZ) rfl (atZ)) ?_
  refine WL_do0 rfl rfl (D_store (vs := [_, _, _, _, _]) rfl Tryz.sizeOf63 rfl rfl rfl rfl rfl (plZ) (by exact Nat.le_of_ble_eq_true rfl)) ?_
  rintro _ _ rfl
  refine WL_val rfl rfl rfl (R_assign rfl rfl) ?_
  refine WL_nil ?_
  refine WQ_code ?_
  refine WC_ret ?_
  rw [show pxV m x = (⟨m.eb, cl ((m.epre ++ encX v) ++ (q.flatMap encX ++ m.etl)) 63⟩ : Ent) from by show (⟨_, cl (m.epre ++ (x.E.flatMap encX ++ m.etl)) _⟩ : Ent) = _; rw [hE]; simp]
  refine WQ_ret rfl rfl (.cons (.cell (vs := [_, _, _, _, _]) rfl ag63 (mmZ) rfl (atZ)) (.cons (.tmp rfl) .nil)) rfl (by
      exact ⟨if m.ec = 1 then m.ek else m.ek + 5, m.ec - 1, m.epre ++ encX v, rfl, rfl, heO.cut (ys := encX v) (zs := q.flatMap encX) (m := q.length) rfl rfl rfl⟩) (pqZ)
theorem xstate_in (m : XM) (x : PX) {L : List (Int × Nat)} (hM : Mk ekW ptrS m.ses m.smc L) (s : Ss) (hin : (s.num, s.p) ∈ L) : Spec Tryz.prog 18 [ptrP m.p, .int .i64 s.num] [pxE m x, pxM m, seE s] (fun r H' => r = .tuple #[.int .i64 s.st, .int .i64 s.be, .int .i64 s.cn] ∧ H' = [pxE m x, pxM m, seE s]) := by
  refine Spec.of (E := [(0, ptrP m.p), (1, .int .i64 s.num)]) Tryz.func18 rfl (by kernel_rfl) Tryz.ntmps18 rfl rfl (fun w => ?_)
  refine WC_seq ?_
  refine WC_region ?_
  refine WL_val rfl rfl rfl (R_assign rfl rfl) ?_
  refine WL_val rfl rfl rfl (R_assign rfl rfl) ?_
  refine WL_val rfl rfl rfl (R_assign rfl rfl) ?_
  refine WL_nil ?_
  refine WQ_code ?_
  refine WC_seq ?_
  refine WC_seq ?_
  refine WC_region ?_
  refine WL_val rfl rfl rfl (R_move rfl rfl) ?_
  refine WL_val rfl rfl rfl (R_ptrEqNil rfl Tryz.underlying33 rfl) ?_
  refine WL_val rfl rfl rfl (R_move rfl rfl) ?_
  refine WL_val rfl rfl rfl (R_move rfl rfl) ?_
  refine WL_val rfl rfl rfl (R_nilCheck rfl rfl) ?_
  refine WL_val rfl rfl rfl (R_fieldAddr rfl fa68_4 rfl) ?_
  refine WL_val rfl rfl rfl (R_load rfl sc66 rfl (mmZ) rfl) ?_
  refine WL_val rfl rfl rfl (R_move rfl rfl) ?_
  refine WL_val rfl rfl rfl (R_lookK (k := s.num) (a := s.p) rfl Tryz.underlying66 int_key rfl rfl mmZ hM hin) ?_
  refine WL_val rfl rfl rfl (R_ptrEqNil rfl Tryz.underlying87 rfl) ?_
  refine WL_val rfl rfl rfl (R_pickF rfl rfl rfl) ?_
  refine WL_nil ?_
  refine WQ_code ?_
  refine WC_F rfl ?_
  refine WC_skip ?_
  refine WQ_code ?_
  refine WC_seq ?_
  refine WC_region ?_
  refine WL_val rfl rfl rfl (R_move rfl rfl) ?_
  refine WL_val rfl rfl rfl (R_nilCheck rfl rfl) ?_
  refine WL_val rfl rfl rfl (R_fieldAddr rfl fa68_4 rfl) ?_
  refine WL_val rfl rfl rfl (R_load rfl sc66 rfl (mmZ) rfl) ?_
  refine WL_val rfl rfl rfl (R_move rfl rfl) ?_
  refine WL_val rfl rfl rfl (R_lookK (k := s.num) (a := s.p) rfl Tryz.underlying66 int_key rfl rfl mmZ hM hin) ?_
  refine WL_val rfl rfl rfl (R_assign rfl rfl) ?_
  refine WL_nil ?_
  refine WQ_code ?_
  refine WC_seq ?_
  refine WC_draw _ [(0, true), (1, true), (2, true), (3, true), (4, true), (5, true), (6, true), (7, true), (8, true), (9, true), (10, true), (11, true), (12, true), (13, true), (14, true)] followsMixed rfl rfl (by kernel_rfl) .all ?_
  refine WM_val rfl rfl rfl rfl (R_move rfl rfl) ?_
  refine WM_val rfl rfl rfl rfl (R_nilCheck rfl rfl) ?_
  refine WM_val rfl rfl rfl rfl (R_fieldAddr rfl fa90_4 rfl) ?_
  refine WM_val rfl rfl rfl rfl (R_load rfl sc49 rfl (mmZ) rfl) ?_
  refine WM_val rfl rfl rfl rfl (R_move rfl rfl) ?_
  refine WM_val rfl rfl rfl rfl (R_nilCheck rfl rfl) ?_
  refine WM_val rfl rfl rfl rfl (R_fieldAddr rfl fa90_7 rfl) ?_
  refine WM_val rfl rfl rfl rfl (R_load rfl sc3 rfl (mmZ) rfl) ?_
  refine WM_val rfl rfl rfl rfl (R_move rfl rfl) ?_
  refine WM_val rfl rfl rfl rfl (R_nilCheck rfl rfl) ?_
  refine WM_val rfl rfl rfl rfl (R_fieldAddr rfl fa90_8 rfl) ?_
  refine WM_val rfl rfl rfl rfl (R_load rfl sc3 rfl (mmZ) rfl) ?_
  refine WM_val rfl rfl rfl rfl (R_assign rfl rfl) ?_
  refine WM_val rfl rfl rfl rfl (R_assign rfl rfl) ?_
  refine WM_val rfl rfl rfl rfl (R_assign rfl rfl) ?_
  refine WM_nil ?_
  refine WQ_code ?_
  refine WC_ret ?_
  refine WQ_ret rfl rfl (.cons (.tmp rfl) (.cons (.tmp rfl) (.cons (.tmp rfl) .nil))) rfl (by
      exact ⟨rfl, rfl⟩) (pqZ)
theorem xstate_out (m : XM) (x : PX) {L : List (Int × Nat)} (hM : Mk ekW ptrS m.ses m.smc L) (n : Int) (hno : n ∉ L.map (·.1)) : Spec Tryz.prog 18 [ptrP m.p, .int .i64 n] [pxE m x, pxM m] (fun r H' => r = .tuple #[.int .i64 0, .int .i64 (-1), .int .i64 (-1)] ∧ H' = [pxE m x, pxM m]) := by
  refine Spec.of (E := [(0, ptrP m.p), (1, .int .i64 n)]) Tryz.func18 rfl (by kernel_rfl) Tryz.ntmps18 rfl rfl (fun w => ?_)
  refine WC_seq ?_
  refine WC_region ?_
  refine WL_val rfl rfl rfl (R_assign rfl rfl) ?_
  refine WL_val rfl rfl rfl (R_assign rfl rfl) ?_
  refine WL_val rfl rfl rfl (R_assign rfl rfl) ?_
  refine WL_nil ?_
  refine WQ_code ?_
  refine WC_seq ?_
  refine WC_seq ?_
  refine WC_region ?_
  refine WL_val rfl rfl rfl (R_move rfl rfl) ?_
  refine WL_val rfl rfl rfl (R_ptrEqNil rfl Tryz.underlying33 rfl) ?_
  refine WL_val rfl rfl rfl (R_move rfl rfl) ?_
  refine WL_val rfl rfl rfl (R_move rfl rfl) ?_
  refine WL_val rfl rfl rfl (R_nilCheck rfl rfl) ?_
  refine WL_val rfl rfl rfl (R_fieldAddr rfl fa68_4 rfl) ?_
  refine WL_val rfl rfl rfl (R_load rfl sc66 rfl (mmZ) rfl) ?_
  refine WL_val rfl rfl rfl (R_move rfl rfl) ?_
  refine WL_val rfl rfl rfl (R_lookK0 (k := n) (zv := .pointer none) rfl Tryz.underlying66 int_key rfl rfl mmZ hM hno (fun w => Tryz.zeroValue87 w)) ?_
  refine WL_val rfl rfl rfl (R_ptrEqNil rfl Tryz.underlying87 rfl) ?_
  refine WL_val rfl rfl rfl (R_pickF rfl rfl rfl) ?_
  refine WL_nil ?_
  refine WQ_code ?_
  refine WC_T rfl ?_
  refine WC_seq ?_
  refine WC_region ?_
  refine WL_val rfl rfl rfl (R_assign rfl rfl) ?_
  refine WL_val rfl rfl rfl (R_assign rfl rfl) ?_
  refine WL_val rfl rfl rfl (R_assign rfl rfl) ?_
  refine WL_nil ?_
  refine WQ_code ?_
  refine WC_ret ?_
  refine WQ_ret rfl rfl (.cons (.tmp rfl) (.cons (.tmp rfl) (.cons (.tmp rfl) .nil))) rfl (by
      exact ⟨rfl, rfl⟩) (pqZ)
theorem xin_bad (m : XM) (x : PX) (n st : Int) (now : Nat) (hm : x.may (decide (0 ≤ n ∧ n ≤ 100)) now ≠ 0) : Spec Tryz.prog 34 [ptrP m.p, .int .i64 n, .int .i64 st, .int .u64 (now : Int)] [pxE m x] (fun r H' => r = .tuple #[.pointer none, .int .i64 (x.may (decide (0 ≤ n ∧ n ≤ 100)) now)] ∧ H' = [pxE m x]) := by
  refine Spec.of (E := [(0, ptrP m.p), (1, .int .i64 n), (2, .int .i64 st), (3, .int .u64 (now : Int))]) Tryz.func34 rfl (by kernel_rfl) Tryz.ntmps34 rfl rfl (fun w => ?_)
  refine WC_seq ?_
  refine WC_region ?_
  refine WL_val rfl rfl rfl (R_assign rfl rfl) ?_
  refine WL_val rfl rfl rfl (R_assign rfl rfl) ?_
  refine WL_nil ?_
  refine WQ_code ?_
  refine WC_seq ?_
  refine WC_seq ?_
  refine WC_region ?_
  refine WL_val rfl rfl rfl (R_move rfl rfl) ?_
  refine WL_val rfl rfl rfl (R_move rfl rfl) ?_
  refine WL_do rfl rfl rfl (D_call (xright_ok n) rfl rfl rfl rfl (pqZ)) ?_
  rintro _ _ ⟨_, ⟨rfl, rfl⟩, rfl⟩
  refine WL_val rfl rfl rfl (R_move rfl rfl) ?_
  refine WL_do rfl rfl rfl (D_call (xmay_ok m x (decide (0 ≤ n ∧ n ≤ 100)) now) rfl rfl rfl rfl (pqZ)) ?_
  rintro _ _ ⟨_, ⟨rfl, rfl⟩, rfl⟩
  refine WL_val rfl rfl rfl (R_assign rfl rfl) ?_
  refine WL_nil ?_
  refine WQ_code ?_
  refine WC_seq ?_
  refine WC_region ?_
  refine WL_val rfl rfl rfl (R_move rfl rfl) ?_
  refine WL_val rfl rfl rfl (R_neq rfl rfl rfl) ?_
  refine WL_nil ?_
  refine WQ_code ?_
  refine WC_dT rfl (by exact hm) ?_
  refine WC_seq ?_
  refine WC_region ?_
  refine WL_val rfl rfl rfl (R_move rfl rfl) ?_
  refine WL_val rfl rfl rfl (R_assign rfl rfl) ?_
  refine WL_val rfl rfl rfl (R_assign rfl rfl) ?_
  refine WL_nil ?_
  refine WQ_code ?_
  refine WC_ret ?_
  refine WQ_ret rfl rfl (.cons (.tmp rfl) (.cons (.tmp rfl) .nil)) rfl (by
      exact ⟨rfl, rfl⟩) (pqZ)
theorem xin_out (m : XM) (x : PX) {L : List (Int × Nat)} (hM : Mk ekW ptrS m.ses m.smc L) (n st : Int) (now : Nat) (hm : x.may (decide (0 ≤ n ∧ n ≤ 100)) now = 0) (hno : n ∉ L.map (·.1)) : Spec Tryz.prog 34 [ptrP m.p, .int .i64 n, .int .i64 st, .int .u64 (now : Int)] [pxE m x, pxM m] (fun r H' => r = .tuple #[.pointer none, .int .i64 9] ∧ H' = [pxE m x, pxM m]) := by
  refine Spec.of (E := [(0, ptrP m.p), (1, .int .i64 n), (2, .int .i64 st), (3, .int .u64 (now : Int))]) Tryz.func34 rfl (by kernel_rfl) Tryz.ntmps34 rfl rfl (fun w => ?_)
  refine WC_seq ?_
  refine WC_region ?_
  refine WL_val rfl rfl rfl (R_assign rfl rfl) ?_
  refine WL_val rfl rfl rfl (R_assign rfl rfl) ?_
  refine WL_nil ?_
  refine WQ_code ?_
  refine WC_seq ?_
  refine WC_seq ?_
  refine WC_region ?_
  refine WL_val rfl rfl rfl (R_move rfl rfl) ?_
  refine WL_val rfl rfl rfl (R_move rfl rfl) ?_
  refine WL_do rfl rfl rfl (D_call (xright_ok n) rfl rfl rfl rfl (pqZ)) ?_
  rintro _ _ ⟨_, ⟨rfl, rfl⟩, rfl⟩
  refine WL_val rfl rfl rfl (R_move rfl rfl) ?_
  refine WL_do rfl rfl rfl (D_call (xmay_ok m x (decide (0 ≤ n ∧ n ≤ 100)) now) rfl rfl rfl rfl (pqZ)) ?_
  rintro _ _ ⟨_, ⟨rfl, rfl⟩, rfl⟩
  refine WL_val rfl rfl rfl (R_assign rfl rfl) ?_
  refine WL_nil ?_
  refine WQ_code ?_
  refine WC_seq ?_
  refine WC_region ?_
  refine WL_val rfl rfl rfl (R_move rfl rfl) ?_
  refine WL_val rfl rfl rfl (R_neq rfl rfl rfl) ?_
  refine WL_nil ?_
  refine WQ_code ?_
  refine WC_dF rfl (by exact fun e => e hm) ?_
  refine WC_skip ?_
  refine WQ_code ?_
  refine WC_seq ?_
  refine WC_region ?_
  refine WL_val rfl rfl rfl (R_move rfl rfl) ?_
  refine WL_val rfl rfl rfl (R_nilCheck rfl rfl) ?_
  refine WL_val rfl rfl rfl (R_fieldAddr rfl fa68_4 rfl) ?_
  refine WL_val rfl rfl rfl (R_load rfl sc66 rfl (mmZ) rfl) ?_
  refine WL_val rfl rfl rfl (R_move rfl rfl) ?_
  refine WL_val rfl rfl rfl (R_lookK0 (k := n) (zv := .pointer none) rfl Tryz.underlying66 int_key rfl rfl mmZ hM hno (fun w => Tryz.zeroValue87 w)) ?_
  refine WL_val rfl rfl rfl (R_assign rfl rfl) ?_
  refine WL_nil ?_
  refine WQ_code ?_
  refine WC_seq ?_
  refine WC_seq ?_
  refine WC_region ?_
  refine WL_val rfl rfl rfl (R_move rfl rfl) ?_
  refine WL_val rfl rfl rfl (R_ptrEqNil rfl Tryz.underlying87 rfl) ?_
  refine WL_val rfl rfl rfl (R_move rfl rfl) ?_
  refine WL_skip rfl rfl rfl ?_
  refine WL_skip rfl rfl rfl ?_
  refine WL_skip rfl rfl rfl ?_
  refine WL_skip rfl rfl rfl ?_
  refine WL_skip rfl rfl rfl ?_
  refine WL_skip rfl rfl rfl ?_
  refine WL_val rfl rfl rfl (R_pickT rfl rfl rfl) ?_
  refine WL_nil ?_
  refine WQ_code ?_
  refine WC_T rfl ?_
  refine WC_seq ?_
  refine WC_region ?_
  refine WL_val rfl rfl rfl (R_assign rfl rfl) ?_
  refine WL_val rfl rfl rfl (R_assign rfl rfl) ?_
  refine WL_nil ?_
  refine WQ_code ?_
  refine WC_ret ?_
  refine WQ_ret rfl rfl (.cons (.tmp rfl) (.cons (.tmp rfl) .nil)) rfl (by
      exact ⟨rfl, rfl⟩) (pqZ)
theorem xin_not (m : XM) (x : PX) {L : List (Int × Nat)} (hM : Mk ekW ptrS m.ses m.smc L) (s : Ss) (hin : (s.num, s.p) ∈ L) (st : Int) (now : Nat) (hm : x.may (decide (0 ≤ s.num ∧ s.num ≤ 100)) now = 0) (hs : s.st ≠ st) : Spec Tryz.prog 34 [ptrP m.p, .int .i64 s.num, .int .i64 st, .int .u64 (now : Int)] [pxE m x, pxM m, seE s] (fun r H' => r = .tuple #[.pointer none, .int .i64 9] ∧ H' = [pxE m x, pxM m, seE s]) := by
  refine Spec.of (E := [(0, ptrP m.p), (1, .int .i64 s.num), (2, .int .i64 st), (3, .int .u64 (now : Int))]) Tryz.func34 rfl (by kernel_rfl) Tryz.ntmps34 rfl rfl (fun w => ?_)
  refine WC_seq ?_
  refine WC_region ?_
  refine WL_val rfl rfl rfl (R_assign rfl rfl) ?_
  refine WL_val rfl rfl rfl (R_assign rfl rfl) ?_
  refine WL_nil ?_
  refine WQ_code ?_
  refine WC_seq ?_
  refine WC_seq ?_
  refine WC_region ?_
  refine WL_val rfl rfl rfl (R_move rfl rfl) ?_
  refine WL_val rfl rfl rfl (R_move rfl rfl) ?_
  refine WL_do rfl rfl rfl (D_call (xright_ok s.num) rfl rfl rfl rfl (pqZ)) ?_
  rintro _ _ ⟨_, ⟨rfl, rfl⟩, rfl⟩
  refine WL_val rfl rfl rfl (R_move rfl rfl) ?_
  refine WL_do rfl rfl rfl (D_call (xmay_ok m x (decide (0 ≤ s.num ∧ s.num ≤ 100)) now) rfl rfl rfl rfl (pqZ)) ?_
  rintro _ _ ⟨_, ⟨rfl, rfl⟩, rfl⟩
  refine WL_val rfl rfl rfl (R_assign rfl rfl) ?_
  refine WL_nil ?_
  refine WQ_code ?_
  refine WC_seq ?_
  refine WC_region ?_
  refine WL_val rfl rfl rfl (R_move rfl rfl) ?_
  refine WL_val rfl rfl rfl (R_neq rfl rfl rfl) ?_
  refine WL_nil ?_
  refine WQ_code ?_
  refine WC_dF rfl (by exact fun e => e hm) ?_
  refine WC_skip ?_
  refine WQ_code ?_
  refine WC_seq ?_
  refine WC_region ?_
  refine WL_val rfl rfl rfl (R_move rfl rfl) ?_
  refine WL_val rfl rfl rfl (R_nilCheck rfl rfl) ?_
  refine WL_val rfl rfl rfl (R_fieldAddr rfl fa68_4 rfl) ?_
  refine WL_val rfl rfl rfl (R_load rfl sc66 rfl (mmZ) rfl) ?_
  refine WL_val rfl rfl rfl (R_move rfl rfl) ?_
  refine WL_val rfl rfl rfl (R_lookK (k := s.num) (a := s.p) rfl Tryz.underlying66 int_key rfl rfl mmZ hM hin) ?_
  refine WL_val rfl rfl rfl (R_assign rfl rfl) ?_
  refine WL_nil ?_
  refine WQ_code ?_
  refine WC_seq ?_
  refine WC_seq ?_
  refine WC_region ?_
  refine WL_val rfl rfl rfl (R_move rfl rfl) ?_
  refine WL_val rfl rfl rfl (R_ptrEqNil rfl Tryz.underlying87 rfl) ?_
  refine WL_val rfl rfl rfl (R_move rfl rfl) ?_
  refine WL_val rfl rfl rfl (R_move rfl rfl) ?_
  refine WL_val rfl rfl rfl (R_nilCheck rfl rfl) ?_
  refine WL_val rfl rfl rfl (R_fieldAddr rfl fa90_4 rfl) ?_
  refine WL_val rfl rfl rfl (R_load rfl sc49 rfl (mmZ) rfl) ?_
  refine WL_val rfl rfl rfl (R_move rfl rfl) ?_
  refine WL_val rfl rfl rfl (R_neq rfl rfl rfl) ?_
  refine WL_val rfl rfl rfl (R_pickF rfl rfl rfl) ?_
  refine WL_nil ?_
  refine WQ_code ?_
  refine WC_dT rfl (by exact hs) ?_
  refine WC_seq ?_
  refine WC_region ?_
  refine WL_val rfl rfl rfl (R_assign rfl rfl) ?_
  refine WL_val rfl rfl rfl (R_assign rfl rfl) ?_
  refine WL_nil ?_
  refine WQ_code ?_
  refine WC_ret ?_
  refine WQ_ret rfl rfl (.cons (.tmp rfl) (.cons (.tmp rfl) .nil)) rfl (by
      exact ⟨rfl, rfl⟩) (pqZ)
theorem xin_ok (m : XM) (x : PX) (hE : x.E.length ≤ 10000) {L : List (Int × Nat)} (hM : Mk ekW ptrS m.ses m.smc L) (s : Ss) (hin : (s.num, s.p) ∈ L) (st : Int) (now : Nat) (hm : x.may (decide (0 ≤ s.num ∧ s.num ≤ 100)) now = 0) (hs : s.st = st) : Spec Tryz.prog 34 [ptrP m.p, .int .i64 s.num, .int .i64 st, .int .u64 (now : Int)] [pxE m x, pxM m, seE s] (fun r H' => r = .tuple #[ptrS s.p, .int .i64 0] ∧ H' = [pxE m x, pxM m, seE s]) := by
  refine Spec.of (E := [(0, ptrP m.p), (1, .int .i64 s.num), (2, .int .i64 st), (3, .int .u64 (now : Int))]) Tryz.func34 rfl (by kernel_rfl) Tryz.ntmps34 rfl rfl (fun w => ?_)
  refine WC_seq ?_
  refine WC_region ?_
  refine WL_val rfl rfl rfl (R_assign rfl rfl) ?_
  refine WL_val rfl rfl rfl (R_assign rfl rfl) ?_
  refine WL_nil ?_
  refine WQ_code ?_
  refine WC_seq ?_
  refine WC_seq ?_
  refine WC_region ?_
  refine WL_val rfl rfl rfl (R_move rfl rfl) ?_
  refine WL_val rfl rfl rfl (R_move rfl rfl) ?_
  refine WL_do rfl rfl rfl (D_call (xright_ok s.num) rfl rfl rfl rfl (pqZ)) ?_
  rintro _ _ ⟨_, ⟨rfl, rfl⟩, rfl⟩
  refine WL_val rfl rfl rfl (R_move rfl rfl) ?_
  refine WL_do rfl rfl rfl (D_call (xmay_ok m x (decide (0 ≤ s.num ∧ s.num ≤ 100)) now) rfl rfl rfl rfl (pqZ)) ?_
  rintro _ _ ⟨_, ⟨rfl, rfl⟩, rfl⟩
  refine WL_val rfl rfl rfl (R_assign rfl rfl) ?_
  refine WL_nil ?_
  refine WQ_code ?_
  refine WC_seq ?_
  refine WC_region ?_
  refine WL_val rfl rfl rfl (R_move rfl rfl) ?_
  refine WL_val rfl rfl rfl (R_neq rfl rfl rfl) ?_
  refine WL_nil ?_
  refine WQ_code ?_
  refine WC_dF rfl (by exact fun e => e hm) ?_
  refine WC_skip ?_
  refine WQ_code ?_
  refine WC_seq ?_
  refine WC_region ?_
  refine WL_val rfl rfl rfl (R_move rfl rfl) ?_
  refine WL_val rfl rfl rfl (R_nilCheck rfl rfl) ?_
  refine WL_val rfl rfl rfl (R_fieldAddr rfl fa68_4 rfl) ?_
  refine WL_val rfl rfl rfl (R_load rfl sc66 rfl (mmZ) rfl) ?_
  refine WL_val rfl rfl rfl (R_move rfl rfl) ?_
  refine WL_val rfl rfl rfl (R_lookK (k := s.num) (a := s.p) rfl Tryz.underlying66 int_key rfl rfl mmZ hM hin) ?_
  refine WL_val rfl rfl rfl (R_assign rfl rfl) ?_
  refine WL_nil ?_
  refine WQ_code ?_
  refine WC_seq ?_
  refine WC_seq ?_
  refine WC_region ?_
  refine WL_val rfl rfl rfl (R_move rfl rfl) ?_
  refine WL_val rfl rfl rfl (R_ptrEqNil rfl Tryz.underlying87 rfl) ?_
  refine WL_val rfl rfl rfl (R_move rfl rfl) ?_
  refine WL_val rfl rfl rfl (R_move rfl rfl) ?_
  refine WL_val rfl rfl rfl (R_nilCheck rfl rfl) ?_
  refine WL_val rfl rfl rfl (R_fieldAddr rfl fa90_4 rfl) ?_
  refine WL_val rfl rfl rfl (R_load rfl sc49 rfl (mmZ) rfl) ?_
  refine WL_val rfl rfl rfl (R_move rfl rfl) ?_
  refine WL_val rfl rfl rfl (R_neq rfl rfl rfl) ?_
  refine WL_val rfl rfl rfl (R_pickF rfl rfl rfl) ?_
  refine WL_nil ?_
  refine WQ_code ?_
  refine WC_dF rfl (by exact fun e => e hs) ?_
  refine WC_skip ?_
  refine WQ_code ?_
  refine WC_seq ?_
  refine WC_region ?_
  refine WL_val rfl rfl rfl (R_move rfl rfl) ?_
  refine WL_val rfl rfl rfl (R_move rfl rfl) ?_
  refine WL_do rfl rfl rfl (D_call (xfull_ok m x hE) rfl rfl rfl rfl (pqZ)) ?_
  rintro _ _ ⟨_, ⟨rfl, rfl⟩, rfl⟩
  refine WL_val rfl rfl rfl (R_assign rfl rfl) ?_
  refine WL_val rfl rfl rfl (R_assign rfl rfl) ?_
  refine WL_nil ?_
  refine WQ_code ?_
  refine WC_ret ?_
  refine WQ_ret rfl rfl (.cons (.tmp rfl) (.cons (.tmp rfl) .nil)) rfl (by
      exact ⟨rfl, rfl⟩) (pqZ)
end Go.Proofs.YtelmlkdibcdebaaGreat
end
section
set_option linter.unusedVariables false
set_option maxRecDepth 20000
set_option maxHeartbeats 2000000
namespace Go.Proofs.YtelmlkdibcdebaaGreat
theorem Spec.shed {P : Program} {f : FuncId} {args : List Value} {H : Heap} {post : Value → Heap → Prop} (h : Spec P f args H (fun r H' => ∃ H1 G, H'.Perm (H1 ++ G) ∧ post r H1)) : Spec P f args H post :=
  ⟨h.enters, fun w hw => (h.calls w hw).mono fun e w' ⟨v, H', e1, ⟨H1, G, p, q⟩, r⟩ => ⟨v, H1, e1, q, (r.perm p).left⟩⟩
theorem px_perm {a b c d e : Ent} {SS S2 R : Heap} (h : SS.Perm (e :: S2)) : ([a, b, c, d] ++ (SS ++ R)).Perm (([a, e, b, c, d] ++ R) ++ S2) := by
  refine (((h.append_right R).append_left [a, b, c, d])).trans ?_
  refine List.Perm.cons a ?_
  refine (List.perm_middle (l₁ := [b, c, d]) (a := e) (l₂ := S2 ++ R)).trans (List.Perm.cons e (List.Perm.cons b (List.Perm.cons c (List.Perm.cons d (show (S2 ++ R).Perm (R ++ S2) from List.perm_append_comm)))))
theorem px_mid (T L P S : Heap) : ((T ++ (L ++ P)) ++ S).Perm (L ++ (T ++ (S ++ P))) := by
  have h1 : ((T ++ (L ++ P)) ++ S).Perm ((L ++ T) ++ (S ++ P)) := by
    rw [← List.append_assoc T L P, List.append_assoc (T ++ L) P S]
    exact (List.perm_append_comm).append List.perm_append_comm
  rw [List.append_assoc L T (S ++ P)] at h1
  exact h1
theorem px_perm2 {a b c d e : Ent} {SS S2 L P : Heap} (h : SS.Perm (e :: S2)) : ([a, b, c, d] ++ (SS ++ (L ++ P))).Perm (([a, e] ++ L) ++ ([b, c, d] ++ (S2 ++ P))) :=
  (px_perm h).trans (List.Perm.cons a (List.Perm.cons e (px_mid [b, c, d] L P S2)))
theorem px_perm3 {a b c d e : Ent} {SS S2 L P : Heap} (h : SS.Perm (e :: S2)) : ([a, b, c, d] ++ (SS ++ (L ++ P))).Perm (([a, e, b, c] ++ L) ++ ([d] ++ (S2 ++ P))) :=
  (px_perm h).trans (List.Perm.cons a (List.Perm.cons e (List.Perm.cons b (List.Perm.cons c (px_mid [d] L P S2)))))
theorem px_back3 {a b c d e : Ent} {S2 L P : Heap} : (([a, e, b, c] ++ L) ++ ([d] ++ (S2 ++ P))).Perm (([a, b, c, d] ++ (S2 ++ (L ++ P))) ++ [e]) := by
  refine (px_perm3 (SS := e :: S2) (List.Perm.refl _)).symm.trans ?_
  refine (List.perm_middle (l₁ := [a, b, c, d]) (a := e) (l₂ := S2 ++ (L ++ P))).trans ?_
  exact (List.perm_append_singleton e _).symm
abbrev pxH (m : XM) (x : PX) : Heap := [pxE m x, pxM m, pxV m x, pxQ m] ++ (ssH x.S ++ (balH m.bm ++ poolsH m.pm x.P))
theorem PXIs.le {N N2 : Nat} {m : XM} {x : PX} (h : PXIs N m x) (hN : N ≤ N2) : PXIs N2 m x := ⟨h.bal.le hN, h.len, h.po, h.oq, h.mp, h.eO, h.ok, h.seed, h.num, h.vl, h.now⟩
theorem PXIs.setS {N : Nat} {m : XM} {x : PX} (h : PXIs N m x) {A B : List Ss} {s s' : Ss} (hS : x.S = A ++ s :: B) (hn : s'.num = s.num) (hp : s'.p = s.p) : PXIs N m { x with S := A ++ s' :: B } := by
  have e : sesM (A ++ s' :: B) = sesM x.S := by rw [hS]; simp only [sesM, List.map_append, List.map_cons, hn, hp]
  refine ⟨h.bal, h.len, h.po, h.oq, ?_, h.eO, h.ok, h.seed, fun y hy => ?_, h.vl, h.now⟩
  · show Mk ekW ptrS m.ses m.smc (sesM (A ++ s' :: B)); rw [e]; exact h.mp
  · rcases List.mem_append.1 hy with hy | hy
    · exact h.num y (by rw [hS]; exact List.mem_append_left _ hy)
    · rcases List.mem_cons.1 hy with rfl | hy
      · rw [hn]; exact h.num s (by rw [hS]; exact List.mem_append_right _ (List.mem_cons_self ..))
      · exact h.num y (by rw [hS]; exact List.mem_append_right _ (List.mem_cons_of_mem _ hy))
/-- What an attempt of a session makes of a proxy. -/
def PX.att (x : PX) (A : List Ss) (s : Ss) (B : List Ss) : PX :=
  if x.b.cand x.now = [] then
    if x.failE s = 0 then { x with S := A ++ x.later s :: B } else { x.tell ⟨3, s.num, -1, -1, x.failE s⟩ with S := A ++ B }
  else match x.P[x.pk s]? with
    | some si => { x.attX s si with S := A ++ x.attS s si :: B }
    | none => x
theorem attX_S (x : PX) (s : Ss) (si : PS) : (x.attX s si).S = x.S ∧ (x.attS s si).num = s.num ∧ (x.attS s si).p = s.p := by
  by_cases h1 : (x.pv s si).k = 1
  · rw [(attX_1 h1).1, (attX_1 h1).2]; exact ⟨rfl, rfl, rfl⟩
  · by_cases h2 : (x.pv s si).k = 2
    · rw [(attX_2 h1 h2).1, (attX_2 h1 h2).2]; exact ⟨rfl, rfl, rfl⟩
    · rw [(attX_3 h1 h2).1, (attX_3 h1 h2).2]; exact ⟨rfl, rfl, rfl⟩
theorem pk_at {N : Nat} {m : XM} {x : PX} (h : PXIs N m x) (s : Ss) (hne : x.b.cand x.now ≠ []) : x.b.pickI s.key x.now = (x.pk s : Int) ∧ ∃ mi si, m.pm[x.pk s]? = some mi ∧ x.P[x.pk s]? = some si := by
  obtain ⟨i, z, h1, h2, _⟩ := cand_mem (pickI_mem x.b.k (un x.b.V) x.b.nx s.key hne)
  have h1 : x.b.pickI s.key x.now = (i : Int) := h1
  have hl := (List.getElem?_eq_some_iff.1 h2).1
  rw [un_len] at hl
  have e : x.pk s = i := by unfold PX.pk; rw [h1]; rfl
  obtain ⟨mi, hmi⟩ := getE (T := m.pm) (i := i) (by rw [h.len, ← h.vl]; exact hl)
  obtain ⟨si, hsi⟩ := getE (T := x.P) (i := i) (by rw [← h.vl]; exact hl)
  rw [e]; exact ⟨h1, mi, si, hmi, hsi⟩
theorem xattempt_ok {N : Nat} {m : XM} {x : PX} (h : PXIs N m x) (hN : N ≤ 9000) (hE : x.E.length ≤ 1000000) {A B : List Ss} {s : Ss} (hS : x.S = A ++ s :: B) (hk : s.key.size ≤ 64) (ht : s.tr ≤ 1000) (hbl : x.b.last ≤ x.now) (hpo : ∀ si ∈ x.P, si.E.length ≤ 10000 ∧ si.n < 1000000000000) (hd : delL (sesM x.S) s.num = sesM (A ++ B)) :
    Spec Tryz.prog 33 [ptrP m.p, ptrS s.p] (pxH m x) (fun r H' => ∃ m', r = .tuple #[] ∧ H' = pxH m' (x.att A s B) ∧ PXIs (N + 1) m' (x.att A s B) ∧ m'.p = m.p) := by
  have hin : (s.num, s.p) ∈ sesM x.S := by rw [hS]; exact List.mem_map_of_mem (f := fun s : Ss => (s.num, s.p)) (List.mem_append_right _ (List.mem_cons_self ..))
  have hperm : (ssH x.S).Perm (seE s :: ssH (A ++ B)) := by rw [hS]; exact ssH_split A B s
  by_cases hne : x.b.cand x.now = []
  · by_cases hf : x.failE s = 0
    · have hX : x.att A s B = { x with S := A ++ x.later s :: B } := by unfold PX.att; rw [if_pos hne, if_pos hf]
      refine Spec.re ((((xatt_l h hN s hk ht hbl hne hf).fr ([pxM m, pxV m x, pxQ m] ++ (ssH (A ++ B) ++ poolsH m.pm x.P))).perm (px_perm2 hperm)).mono ?_)
      rintro r H' ⟨H1, ⟨hr, rfl⟩, rfl⟩
      refine ⟨pxH m (x.att A s B), ?_, m, hr, rfl, ?_, rfl⟩
      · rw [hX]
        exact (px_perm2 (ssH_split A B (x.later s))).symm
      · rw [hX]
        exact (h.setS (s' := x.later s) hS rfl rfl).le (Nat.le_succ N)
    · have hX : x.att A s B = { x.tell ⟨3, s.num, -1, -1, x.failE s⟩ with S := A ++ B } := by unfold PX.att; rw [if_pos hne, if_neg hf]
      refine Spec.shed ((((xatt_g h hN hE s hin hk ht hbl hne hf).fr ([pxQ m] ++ (ssH (A ++ B) ++ poolsH m.pm x.P))).perm (px_perm3 hperm)).mono ?_)
      rintro r H' ⟨H1, ⟨ses, eb, ek, ec, epre, etl, hr, rfl, hO, hM⟩, rfl⟩
      refine ⟨pxH { m with ses := ses, eb := eb, ek := ek, ec := ec, epre := epre, etl := etl } (x.att A s B), [seE s], ?_, { m with ses := ses, eb := eb, ek := ek, ec := ec, epre := epre, etl := etl }, hr, rfl, ?_, rfl⟩
      · rw [hX]
        exact px_back3
      · rw [hX]
        rw [hd] at hM
        exact ⟨h.bal.le (Nat.le_succ N), h.len, h.po, h.oq, hM, hO, h.ok, h.seed, fun y hy => h.num y (by
          rw [hS]
          rcases List.mem_append.1 hy with hy | hy
          · exact List.mem_append_left _ hy
          · exact List.mem_append_right _ (List.mem_cons_of_mem _ hy)), h.vl, h.now⟩
  · obtain ⟨hpi, mi, si, hmi, hsi⟩ := pk_at h s hne
    obtain ⟨e1, e2, e3⟩ := attX_S x s si
    have hX : x.att A s B = { x.attX s si with S := A ++ x.attS s si :: B } := by unfold PX.att; rw [if_neg hne, hsi]
    obtain ⟨q1, q2⟩ := hpo si (List.mem_of_getElem? hsi)
    refine Spec.re ((((xatt_ok h hN hE s hk hbl hne hmi hsi hpi q1 q2).fr (ssH (A ++ B))).perm (px_perm hperm)).mono ?_)
    rintro r H' ⟨H1, ⟨m', hr, rfl, hI, hp, _⟩, rfl⟩
    refine ⟨pxH m' (x.att A s B), ?_, m', hr, rfl, ?_, hp⟩
    · rw [hX]
      exact (px_perm (ssH_split A B (x.attS s si))).symm
    · rw [hX]
      exact hI.setS (e1.trans hS) e2 e3
end Go.Proofs.YtelmlkdibcdebaaGreat
end
section
set_option linter.unusedVariables false
set_option maxRecDepth 20000
set_option maxHeartbeats 1000000
namespace Go.Proofs.YtelmlkdibcdebaaGreat
theorem pnext_none {m : PM} {s : PS} (h : PIs m s) (hE : s.E = []) : Spec Tryz.prog 66 [ptrP m.p] (poH m s) (fun r H' => r = .tuple #[.agg #[.int .i64 0, .int .i64 0, .int .i64 0], .bool false] ∧ H' = poH m s) := by
  refine Spec.of (E := [(0, ptrP m.p)]) Tryz.func66 rfl (by kernel_rfl) Tryz.ntmps66 rfl rfl (fun w => ?_)
  refine WC_seq ?_
  refine WC_region ?_
  refine WL_do rfl rfl rfl (D_alloc rfl zv143) ?_
  rintro _ _ ⟨b1, rfl, rfl⟩
  refine WL_val rfl rfl rfl (R_assign rfl rfl) ?_
  refine WL_nil ?_
  refine WQ_code ?_
  refine WC_seq ?_
  refine WC_seq ?_
  refine WC_region ?_
  refine WL_val rfl rfl rfl (R_move rfl rfl) ?_
  refine WL_do rfl rfl rfl (D_call (pnone_ok h) rfl rfl rfl rfl (pqZ)) ?_
  rintro _ _ ⟨_, ⟨rfl, rfl⟩, rfl⟩
  refine WL_val rfl rfl rfl (R_move rfl rfl) ?_
  refine WL_val rfl rfl rfl (R_move rfl rfl) ?_
  refine WL_val rfl rfl rfl (R_nilCheck rfl rfl) ?_
  refine WL_val rfl rfl rfl (R_fieldAddr rfl fa136_7 rfl) ?_
  refine WL_val rfl rfl rfl (R_load (v := sVal m.eb m.ek s.E.length m.ec) rfl sc134 rfl (mmZ) (pc_t h.cl rfl 2)) ?_
  refine WL_val rfl rfl rfl (R_lenS rfl Tryz.underlying134 rfl) ?_
  refine WL_val rfl rfl rfl (R_eql rfl rfl rfl) ?_
  refine WL_val rfl rfl rfl (R_pickF rfl rfl rfl) ?_
  refine WL_nil ?_
  refine WQ_code ?_
  refine WC_dT rfl (by rw [hE]; rfl) ?_
  refine WC_seq ?_
  refine WC_region ?_
  refine WL_val rfl rfl rfl (R_build rfl zv143 pl143 rfl rfl) ?_
  refine WL_do0 rfl rfl (D_store (vs := [_, _, _]) rfl Tryz.sizeOf143 rfl rfl rfl rfl rfl (plZ) (by exact Nat.le_of_ble_eq_true rfl)) ?_
  rintro _ _ rfl
  refine WL_val rfl rfl rfl (R_assign rfl rfl) ?_
  refine WL_nil ?_
  refine WQ_code ?_
  refine WC_ret ?_
  refine WQ_ret rfl rfl (.cons (.cell (vs := [_, _, _]) rfl ag143 (mmZ) rfl (atZ)) (.cons (.tmp rfl) .nil)) rfl (by
      exact ⟨rfl, rfl⟩) (pqZ)
theorem pnext_some {m : PM} {s : PS} (h : PIs m s) {x : Pv} {r : List Pv} (hE : s.E = x :: r) : Spec Tryz.prog 66 [ptrP m.p] (poH m s) (fun v H' => ∃ m', v = .tuple #[pvV x, .bool true] ∧ H' = poH m' s.nx ∧ m'.p = m.p ∧ PIs m' s.nx) := by
  have hnx : s.nx = { s with E := r } := by unfold PS.nx; rw [hE]; rfl
  have heO := h.eO
  rw [hE] at heO
  obtain ⟨wb, hwb⟩ := heO.some_of (Nat.succ_pos _)
  have hlen : s.E.length = r.length + 1 := by rw [hE]; rfl
  rw [hnx]
  refine Spec.of (E := [(0, ptrP m.p)]) Tryz.func66 rfl (by kernel_rfl) Tryz.ntmps66 rfl rfl (fun w => ?_)
  refine WC_seq ?_
  refine WC_region ?_
  refine WL_do rfl rfl rfl (D_alloc rfl zv143) ?_
  rintro _ _ ⟨b1, rfl, rfl⟩
  refine WL_val rfl rfl rfl (R_assign rfl rfl) ?_
  refine WL_nil ?_
  refine WQ_code ?_
  refine WC_seq ?_
  refine WC_seq ?_
  refine WC_region ?_
  refine WL_val rfl rfl rfl (R_move rfl rfl) ?_
  refine WL_do rfl rfl rfl (D_call (pnone_ok h) rfl rfl rfl rfl (pqZ)) ?_
  rintro _ _ ⟨_, ⟨rfl, rfl⟩, rfl⟩
  refine WL_val rfl rfl rfl (R_move rfl rfl) ?_
  refine WL_val rfl rfl rfl (R_move rfl rfl) ?_
  refine WL_val rfl rfl rfl (R_nilCheck rfl rfl) ?_
  refine WL_val rfl rfl rfl (R_fieldAddr rfl fa136_7 rfl) ?_
  refine WL_val rfl rfl rfl (R_load (v := sVal m.eb m.ek s.E.length m.ec) rfl sc134 rfl (mmZ) (pc_t h.cl rfl 2)) ?_
  refine WL_val rfl rfl rfl (R_lenS rfl Tryz.underlying134 rfl) ?_
  refine WL_val rfl rfl rfl (R_eql rfl rfl rfl) ?_
  refine WL_val rfl rfl rfl (R_pickF rfl rfl rfl) ?_
  refine WL_nil ?_
  refine WQ_code ?_
  refine WC_dF rfl (by omega) ?_
  refine WC_skip ?_
  refine WQ_code ?_
  refine WC_seq ?_
  refine WC_drawY [⟨some b1, _⟩, ⟨some m.p, _⟩] [(m.p, 198, sVal m.eb m.ek s.E.length m.ec)] [15] [(0, false), (1, false), (2, false), (3, false), (4, true), (5, false), (6, false), (7, false), (8, false), (9, false), (10, true)] [(11, true), (12, false), (13, true), (14, true), (15, false)] followsMixed rfl rfl (by kernel_rfl) (pqZ) (.cons (mmZ) (pc_t h.cl rfl 2) .nil) ?_
  refine WYE_val rfl rfl rfl rfl (R_move rfl rfl) ?_
  refine WYE_val rfl rfl rfl rfl (R_move rfl rfl) ?_
  refine WYE_val rfl rfl rfl rfl (R_nilCheck rfl rfl) ?_
  refine WYE_val rfl rfl rfl rfl (R_fieldAddr rfl fa136_7 rfl) ?_
  refine WYE_early rfl rfl rfl rfl rfl sc134 rfl (by repeat (first | exact List.Mem.head _ | refine List.Mem.tail _ ?_)) ?_
  refine WYE_val rfl rfl rfl rfl (R_indexS (i := 0) hwb rfl Tryz.underlying134 Tryz.sizeOf143 rfl rfl (by omega)) ?_
  refine WYE_val rfl rfl rfl rfl (R_loadAO (vs := [.int .i64 x.k, .int .i64 x.who, .int .i64 x.c]) hwb rfl ag143 rfl (mmZ) rfl (h.eO.atE (i := 0) (x := x) (by rw [hE]; rfl) (by omega))) ?_
  refine WYE_val rfl rfl rfl rfl (R_move rfl rfl) ?_
  refine WYE_val rfl rfl rfl rfl (R_nilCheck rfl rfl) ?_
  refine WYE_val rfl rfl rfl rfl (R_fieldAddr rfl fa136_7 rfl) ?_
  refine WYE_early rfl rfl rfl rfl rfl sc134 rfl (by repeat (first | exact List.Mem.head _ | refine List.Mem.tail _ ?_)) ?_
  refine WYE_rest ?_
  refine WY_val rfl rfl rfl rfl (R_cut1 (m := r.length) hwb rfl Tryz.underlying134 Tryz.sizeOf143 rfl rfl hlen) ?_
  refine WY_do0 rfl rfl rfl (D_store (vs := [_, _, _]) rfl Tryz.sizeOf143 rfl rfl rfl rfl rfl (plZ) (by exact Nat.le_of_ble_eq_true rfl)) ?_
  rintro _ _ rfl
  refine ⟨⟨_, pqZ⟩, .inr (.cons (mmZ) (pc_t h.cl rfl 2) .nil), ?_⟩
  refine WY_val rfl rfl rfl rfl (R_nilCheck rfl rfl) ?_
  refine WY_val rfl rfl rfl rfl (R_fieldAddr rfl fa136_7 rfl) ?_
  refine WY_do0 rfl rfl rfl (D_store (vs := [_]) rfl Tryz.sizeOf134 rfl rfl rfl rfl rfl (plZ) (by exact pc_roomT h.cl rfl (j := 2) (by show 2 < 3; decide))) ?_
  rintro _ _ rfl
  refine ⟨⟨_, pqZ⟩, .inl rfl, ?_⟩
  refine WY_nil ?_
  refine WQ_code ?_
  refine WC_seq ?_
  refine WC_region ?_
  refine WL_val rfl rfl rfl (R_loadA (vs := [_, _, _]) rfl ag143 rfl (mmZ) rfl (atZ)) ?_
  refine WL_do0 rfl rfl (D_store (vs := [_, _, _]) rfl Tryz.sizeOf143 rfl rfl rfl rfl rfl (plZ) (by exact Nat.le_of_ble_eq_true rfl)) ?_
  rintro _ _ rfl
  refine WL_val rfl rfl rfl (R_assign rfl rfl) ?_
  refine WL_nil ?_
  refine WQ_code ?_
  refine WC_ret ?_
  rw [show putAt (pC m s) _ _ = _ from pc_putT h.cl (A := pcH s) rfl 2 _, show poV m s = (⟨m.eb, cl ((m.epre ++ encV x) ++ (r.flatMap encV ++ m.etl)) 143⟩ : Ent) from by unfold poV; rw [hE]; simp]
  refine WQ_ret rfl rfl (.cons (.cell (vs := [_, _, _]) rfl ag143 (mmZ) rfl (atZ)) (.cons (.tmp rfl) .nil)) rfl (by
      exact ⟨{ m with ek := if m.ec = 1 then m.ek else m.ek + 3, ec := m.ec - 1, epre := m.epre ++ encV x }, rfl, rfl, rfl, h.ev (heO.cut (ys := encV x) (zs := r.flatMap encV) (m := r.length) rfl rfl rfl)⟩) (pqZ)
end Go.Proofs.YtelmlkdibcdebaaGreat
end
section
set_option linter.unusedVariables false
set_option maxRecDepth 20000
set_option maxHeartbeats 2000000
namespace Go.Proofs.YtelmlkdibcdebaaGreat
theorem pnext_orX {m : PM} {s : PS} (h : PIs m s) : Spec Tryz.prog 66 [ptrP m.p] (poH m s) (fun v H' => ∃ m', ((s.E = [] ∧ v = .tuple #[.agg #[.int .i64 0, .int .i64 0, .int .i64 0], .bool false]) ∨ (∃ x r, s.E = x :: r ∧ v = .tuple #[pvV x, .bool true])) ∧ H' = poH m' s.nx ∧ m'.p = m.p ∧ PIs m' s.nx) := by
  cases hE : s.E with
  | nil =>
    have hnx : s.nx = s := by unfold PS.nx; rw [hE]; show { s with E := [] } = s; rw [← hE]
    rw [hnx]
    exact (pnext_none h hE).mono fun v H' ⟨h1, h2⟩ => ⟨m, .inl ⟨rfl, h1⟩, h2, rfl, h⟩
  | cons x r => exact (pnext_some h hE).mono fun v H' ⟨m', h1, h2, h3, h4⟩ => ⟨m', .inr ⟨x, r, rfl, h1⟩, h2, h3, h4⟩
theorem xp_next {ms : List PM} {ss : List PS} {i : Nat} {mi : PM} {si : PS} (h1 : ms[i]? = some mi) (h2 : ss[i]? = some si) (h : PIs mi si) : Spec Tryz.prog 66 [ptrP mi.p] (poolsH ms ss) (fun v H' => ∃ m', ((si.E = [] ∧ v = .tuple #[.agg #[.int .i64 0, .int .i64 0, .int .i64 0], .bool false]) ∨ (∃ x r, si.E = x :: r ∧ v = .tuple #[pvV x, .bool true])) ∧ H' = poolsH (ms.set i m') (ss.set i si.nx) ∧ m'.p = mi.p ∧ PIs m' si.nx) := by
  refine (Spec.pool h1 h2 (Q := fun v m' s' => ((si.E = [] ∧ v = .tuple #[.agg #[.int .i64 0, .int .i64 0, .int .i64 0], .bool false]) ∨ (∃ x r, si.E = x :: r ∧ v = .tuple #[pvV x, .bool true])) ∧ s' = si.nx ∧ m'.p = mi.p ∧ PIs m' s') ((pnext_orX h).mono ?_)).mono ?_
  · rintro r H' ⟨m', e1, e2, e3, e4⟩
    exact ⟨m', _, e2, e1, rfl, e3, e4⟩
  · rintro r H' ⟨m', s', e1, e2, rfl, e3, e4⟩
    exact ⟨m', e2, e1, e3, e4⟩
theorem xp_dialed {ms : List PM} {ss : List PS} {i : Nat} {mi : PM} {si : PS} (h1 : ms[i]? = some mi) (h2 : ss[i]? = some si) (h : PIs mi si) (hE : si.E.length ≤ 10000) (c : Int) (made : Bool) (now : Nat) (hb : now ≤ 18446744073709551615) : Spec Tryz.prog 35 [ptrP mi.p, .int .i64 c, .bool made, .int .u64 (now : Int)] (poolsH ms ss) (fun r H' => ∃ m', r = .int .i64 (si.inE c 1 now) ∧ H' = poolsH (ms.set i m') (ss.set i (si.dialed c made now)) ∧ m'.p = mi.p ∧ PIs m' (si.dialed c made now)) := by
  refine (Spec.pool h1 h2 (Q := fun r m' s' => r = .int .i64 (si.inE c 1 now) ∧ s' = si.dialed c made now ∧ m'.p = mi.p ∧ PIs m' s') ((pdialed_ok h hE c made now hb).mono ?_)).mono ?_
  · rintro r H' ⟨m', e1, e2, e3, e4⟩
    exact ⟨m', _, e2, e1, rfl, e3, e4⟩
  · rintro r H' ⟨m', s', e1, e2, rfl, e3, e4⟩
    exact ⟨m', e2, e1, e3, e4⟩
theorem xp_put {ms : List PM} {ss : List PS} {i : Nat} {mi : PM} {si : PS} (h1 : ms[i]? = some mi) (h2 : ss[i]? = some si) (h : PIs mi si) (hE : si.E.length ≤ 10000) (c : Int) (good : Bool) (now : Nat) (hb : now ≤ 18446744073709551615) : Spec Tryz.prog 40 [ptrP mi.p, .int .i64 c, .bool good, .int .u64 (now : Int)] (poolsH ms ss) (fun r H' => ∃ m', r = .int .i64 (si.inE c 2 now) ∧ H' = poolsH (ms.set i m') (ss.set i (si.put c good now)) ∧ m'.p = mi.p ∧ PIs m' (si.put c good now)) := by
  refine (Spec.pool h1 h2 (Q := fun r m' s' => r = .int .i64 (si.inE c 2 now) ∧ s' = si.put c good now ∧ m'.p = mi.p ∧ PIs m' s') ((pput_ok h hE c good now hb).mono ?_)).mono ?_
  · rintro r H' ⟨m', e1, e2, e3, e4⟩
    exact ⟨m', _, e2, e1, rfl, e3, e4⟩
  · rintro r H' ⟨m', s', e1, e2, rfl, e3, e4⟩
    exact ⟨m', e2, e1, e3, e4⟩
end Go.Proofs.YtelmlkdibcdebaaGreat
end
section
set_option linter.unusedVariables false
set_option maxRecDepth 20000
set_option maxHeartbeats 2000000
namespace Go.Proofs.YtelmlkdibcdebaaGreat
/-- Done, of a call that may not be there. -/
def BS.doneX (s : BS) (now : Nat) (n : Int) (good : Bool) : BS := match s.C.find? (fun c => decide (c.1 = n)) with
  | some c => s.done now n c.2.1.toNat c.2.2 good
  | none => s
theorem bdt_ok {N : Nat} {m : Bm} {s : BS} (h : BIs N m s) (hN : N ≤ 9000) (now : Nat) (n : Int) (good : Bool) (h1 : s.last ≤ now) (h2 : now ≤ 18446744073709551614) : Spec Tryz.prog 38 [ptrB m.p, .int .u64 (now : Int), .int .i64 n, .bool good] (balH m) (fun r H' => ∃ m' e, r = .int .i64 e ∧ H' = balH m' ∧ m'.p = m.p ∧ BIs (N + 1) m' (s.doneX now n good)) := by
  cases hf : s.C.find? (fun c => decide (c.1 = n)) with
  | none =>
    have hX : s.doneX now n good = s := by unfold BS.doneX; rw [hf]
    have hno : n ∉ s.C.map (·.1) := fun e => by
      obtain ⟨c, hc, e⟩ := List.mem_map.1 e
      have := List.find?_eq_none.1 hf c hc
      simp only [decide_eq_true_eq] at this
      exact this e
    have hl := h.last
    refine Spec.re (((((bdone_none m N s.C h.is now n good (by omega) h2 hno).fr ([bE2 m] ++ bks m.L)).perm (List.Perm.cons _ (List.Perm.swap _ _ _)))).mono ?_)
    rintro r H' ⟨H1, ⟨hr, rfl⟩, rfl⟩
    refine ⟨balH m, ?_, m, 9, hr, rfl, rfl, by rw [hX]; exact h.le (Nat.le_succ N)⟩
    exact List.Perm.cons _ (List.Perm.swap _ _ _)
  | some c =>
    obtain ⟨n', jI, gn⟩ := c
    have hc := List.mem_of_find?_eq_some hf
    have hn : n' = n := by have := List.find?_some hf; simpa using this
    subst hn
    have hX : s.doneX now n' good = s.done now n' jI.toNat gn good := by unfold BS.doneX; rw [hf]
    have hb := h.is.bk _ hc
    obtain ⟨j, rfl⟩ := Int.eq_ofNat_of_zero_le (show 0 ≤ jI from hb.1)
    refine (bd_ok h hN now n' good h1 h2 j gn hc).mono ?_
    rintro r H' ⟨m', hr, hH, hp, hI⟩
    exact ⟨m', 0, hr, hH, hp, by rw [hX]; exact hI⟩
end Go.Proofs.YtelmlkdibcdebaaGreat
end
section
set_option linter.unusedVariables false
set_option maxRecDepth 20000
set_option maxHeartbeats 2000000
namespace Go.Proofs.YtelmlkdibcdebaaGreat
theorem px_perm4 {a b c d e : Ent} {SS S2 R : Heap} (h : SS.Perm (e :: S2)) : ([a, b, c, d] ++ (SS ++ R)).Perm ([a, e, c] ++ ([b, d] ++ (S2 ++ R))) := by
  refine (px_perm h).trans (List.Perm.cons a (List.Perm.cons e ?_))
  refine (List.Perm.swap c b _).trans (List.Perm.cons c (List.Perm.cons b (List.Perm.cons d ?_)))
  exact (show (R ++ S2).Perm (S2 ++ R) from List.perm_append_comm)
theorem xact_all {N : Nat} {m : XM} {x : PX} (h : PXIs N m x) (hE : x.E.length ≤ 1000000) {A B : List Ss} {s : Ss} (hS : x.S = A ++ s :: B) (c : Int) :
    Spec Tryz.prog 36 [ptrP m.p, ptrS s.p, .int .i64 c] (pxH m x) (fun r H' => ∃ m', r = .tuple #[] ∧ H' = pxH m' { x.tell ⟨1, s.num, s.be, c, 0⟩ with S := A ++ { s with st := 4, cn := c } :: B } ∧ PXIs N m' { x.tell ⟨1, s.num, s.be, c, 0⟩ with S := A ++ { s with st := 4, cn := c } :: B } ∧ m'.p = m.p ∧ m'.pm = m.pm ∧ m'.bm = m.bm ∧ m'.ob = m.ob ∧ m'.oc = m.oc ∧ m'.otl = m.otl) := by
  have hperm : (ssH x.S).Perm (seE s :: ssH (A ++ B)) := by rw [hS]; exact ssH_split A B s
  refine Spec.re ((((xact_ok m x h.eO hE s c).fr ([pxM m, pxQ m] ++ (ssH (A ++ B) ++ (balH m.bm ++ poolsH m.pm x.P)))).perm (px_perm4 hperm)).mono ?_)
  rintro r H' ⟨H1, ⟨eb, ek, ec, epre, etl, hr, rfl, hO⟩, rfl⟩
  refine ⟨_, ?_, { m with eb := eb, ek := ek, ec := ec, epre := epre, etl := etl }, hr, rfl, ?_, rfl, rfl, rfl, rfl, rfl, rfl⟩
  · exact (px_perm4 (ssH_split A B { s with st := 4, cn := c })).symm
  · exact (h.tell ⟨1, s.num, s.be, c, 0⟩ hO).setS (s' := { s with st := 4, cn := c }) hS rfl rfl
theorem xdial_all {N : Nat} {m : XM} {x : PX} (h : PXIs N m x) (hE : x.E.length ≤ 1000000) {A B : List Ss} {s : Ss} (hS : x.S = A ++ s :: B) (c : Int) :
    Spec Tryz.prog 62 [ptrP m.p, ptrS s.p, .int .i64 c] (pxH m x) (fun r H' => ∃ m', r = .tuple #[] ∧ H' = pxH m' { x.tell ⟨2, s.num, s.be, c, 0⟩ with S := A ++ { s with st := 3, cn := c } :: B } ∧ PXIs N m' { x.tell ⟨2, s.num, s.be, c, 0⟩ with S := A ++ { s with st := 3, cn := c } :: B } ∧ m'.p = m.p ∧ m'.pm = m.pm ∧ m'.bm = m.bm ∧ m'.ob = m.ob ∧ m'.oc = m.oc ∧ m'.otl = m.otl) := by
  have hperm : (ssH x.S).Perm (seE s :: ssH (A ++ B)) := by rw [hS]; exact ssH_split A B s
  refine Spec.re ((((xdial_ok m x h.eO hE s c).fr ([pxM m, pxQ m] ++ (ssH (A ++ B) ++ (balH m.bm ++ poolsH m.pm x.P)))).perm (px_perm4 hperm)).mono ?_)
  rintro r H' ⟨H1, ⟨eb, ek, ec, epre, etl, hr, rfl, hO⟩, rfl⟩
  refine ⟨_, ?_, { m with eb := eb, ek := ek, ec := ec, epre := epre, etl := etl }, hr, rfl, ?_, rfl, rfl, rfl, rfl, rfl, rfl⟩
  · exact (px_perm4 (ssH_split A B { s with st := 3, cn := c })).symm
  · exact (h.tell ⟨2, s.num, s.be, c, 0⟩ hO).setS (s' := { s with st := 3, cn := c }) hS rfl rfl
end Go.Proofs.YtelmlkdibcdebaaGreat
end
section
set_option linter.unusedVariables false
set_option maxRecDepth 20000
set_option maxHeartbeats 2000000
namespace Go.Proofs.YtelmlkdibcdebaaGreat
theorem xfail_all {N : Nat} {m : XM} {x : PX} (h : PXIs N m x) (hE : x.E.length ≤ 1000000) {A B : List Ss} {s : Ss} (hS : x.S = A ++ s :: B) (hd : delL (sesM x.S) s.num = sesM (A ++ B)) (code : Int) :
    Spec Tryz.prog 51 [ptrP m.p, ptrS s.p, .int .i64 code] (pxH m x) (fun r H' => ∃ m', r = .tuple #[] ∧ H' = pxH m' { x.tell ⟨3, s.num, -1, -1, code⟩ with S := A ++ B } ∧ PXIs N m' { x.tell ⟨3, s.num, -1, -1, code⟩ with S := A ++ B } ∧ m'.p = m.p ∧ m'.pm = m.pm ∧ m'.bm = m.bm ∧ m'.ob = m.ob ∧ m'.oc = m.oc ∧ m'.otl = m.otl) := by
  have hin : (s.num, s.p) ∈ sesM x.S := by rw [hS]; exact List.mem_map_of_mem (f := fun s : Ss => (s.num, s.p)) (List.mem_append_right _ (List.mem_cons_self ..))
  have hperm : (ssH x.S).Perm (seE s :: ssH (A ++ B)) := by rw [hS]; exact ssH_split A B s
  refine Spec.shed ((((xfail_ok m x h.eO hE h.mp s hin code).fr ([pxQ m] ++ (ssH (A ++ B) ++ (balH m.bm ++ poolsH m.pm x.P)))).perm (px_perm3 (L := []) hperm)).mono ?_)
  rintro r H' ⟨H1, ⟨ses, eb, ek, ec, epre, etl, hr, rfl, hO, hM⟩, rfl⟩
  refine ⟨_, [seE s], ?_, { m with ses := ses, eb := eb, ek := ek, ec := ec, epre := epre, etl := etl }, hr, rfl, ?_, rfl, rfl, rfl, rfl, rfl, rfl⟩
  · exact px_back3 (L := [])
  · rw [hd] at hM
    exact ⟨h.bal, h.len, h.po, h.oq, hM, hO, h.ok, h.seed, fun y hy => h.num y (by
      rw [hS]
      rcases List.mem_append.1 hy with hy | hy
      · exact List.mem_append_left _ hy
      · exact List.mem_append_right _ (List.mem_cons_of_mem _ hy)), h.vl, h.now⟩
theorem ses_del {S A B : List Ss} {s : Ss} (hS : S = A ++ s :: B) (hn : (S.map (·.num)).Nodup) : delL (sesM S) s.num = sesM (A ++ B) := by
  subst hS
  have hx : ∀ y ∈ A ++ B, y.num ≠ s.num := fun y hy e => by
    have h1 := ((List.perm_middle (l₁ := A) (a := s) (l₂ := B)).map (fun y : Ss => y.num)).nodup_iff.1 hn
    rw [List.map_cons, List.nodup_cons] at h1
    exact h1.1 (by rw [← e]; exact List.mem_map_of_mem hy)
  have h2 : (A ++ s :: B).filter (fun y => decide (y.num ≠ s.num)) = A ++ B := by
    rw [List.filter_append, List.filter_cons_of_neg (by simp), ← List.filter_append, List.filter_eq_self.2 (fun y hy => decide_eq_true (hx y hy))]
  unfold delL sesM
  rw [List.filter_map]
  exact congrArg sesM h2
end Go.Proofs.YtelmlkdibcdebaaGreat
end
section
set_option linter.unusedVariables false
set_option maxRecDepth 20000
namespace Go.Proofs.YtelmlkdibcdebaaGreat
/-- What a proxy makes of one thing that pool i tells. -/
def updS (S : List Ss) (n : Int) (f : Ss → Ss) : List Ss := S.map fun s => if s.num = n then f s else s
def PX.drE (i : Nat) (x : PX) (e : Pv) : PX :=
  if e.k = 5 then x.tell ⟨4, -1, (i : Int), e.c, 0⟩
  else match x.S.find? (fun s => decide (s.num = e.who)) with
    | none => x
    | some s =>
      if e.k = 1 then { x.tell ⟨1, s.num, s.be, e.c, 0⟩ with S := updS x.S s.num fun s => { s with st := 4, cn := e.c } }
      else if e.k = 2 then { x.tell ⟨2, s.num, s.be, e.c, 0⟩ with S := updS x.S s.num fun s => { s with st := 3, cn := e.c } }
      else if e.k = 4 then { x.tell ⟨3, s.num, -1, -1, 12⟩ with b := x.b.doneX x.now s.cal true, S := x.S.filter fun y => decide (y.num ≠ s.num) }
      else x
theorem updS_at {S A B : List Ss} {s : Ss} (hS : S = A ++ s :: B) (hn : (S.map (·.num)).Nodup) (f : Ss → Ss) : updS S s.num f = A ++ f s :: B := by
  subst hS
  have hx : ∀ y ∈ A ++ B, y.num ≠ s.num := fun y hy e => by
    have h1 := ((List.perm_middle (l₁ := A) (a := s) (l₂ := B)).map (fun y : Ss => y.num)).nodup_iff.1 hn
    rw [List.map_cons, List.nodup_cons] at h1
    exact h1.1 (by rw [← e]; exact List.mem_map_of_mem hy)
  have key : ∀ L : List Ss, (∀ y ∈ L, y.num ≠ s.num) → L.map (fun y => if y.num = s.num then f y else y) = L := by
    intro L
    induction L with
    | nil => intro _; rfl
    | cons a r ih => intro h; rw [List.map_cons, if_neg (h a (List.mem_cons_self ..)), ih fun y hy => h y (List.mem_cons_of_mem _ hy)]
  unfold updS
  rw [List.map_append, List.map_cons, if_pos rfl, key A fun y hy => hx y (List.mem_append_left _ hy), key B fun y hy => hx y (List.mem_append_right _ hy)]
end Go.Proofs.YtelmlkdibcdebaaGreat
end
section
namespace Go.Proofs.YtelmlkdibcdebaaGreat
/-- **AN ITERATOR** that calls yield on what 'may' come next, till one says no more or all have come. -/
def IterAny (P : Program) (g : FuncId) (ca : List Value) (Hit : Heap) {α : Type} (enc : α → List Value) (may : List α → α → Prop) (all : List α → Prop) : Prop :=
  ∀ (l : Nat) (J Jx : List α → Heap → Prop),
    (∀ pre x hj, may pre x → J pre hj → YSpec P l (enc x) hj (fun v H' => (v = .bool true ∧ J (pre ++ [x]) H') ∨ (v = .bool false ∧ Jx (pre ++ [x]) H'))) →
    ∀ hj, J [] hj → Spec P g (yieldV l :: ca) (Hit ++ hj) (fun _ H' => ∃ h2, ((∃ xs, all xs ∧ J xs h2) ∨ ∃ pre, Jx pre h2) ∧ H' = Hit ++ h2)
/-- **'for .. := range f { body }'**, of an iterator whose order nobody knows, outside of any round. -/
theorem WC_rangeA {X : Ctx} {p : Post} {E : Env} {H : Heap} {α G GX : Type} {f : Operand} {ps : List Tmp} {assign body : Code} {g : FuncId} {ca : List Value} {Hit F1 F2 : Heap} {enc : α → List Value} {may : List α → α → Prop} {all : List α → Prop}
    (hit : IterAny X.P g ca Hit enc may all) (hro : X.ro = none) (hf : ev E f = some (.func (.func g) #[] ca.toArray)) (hlen : ∀ x, (enc x).length = ps.length) (hps : ps.all (fun q => Nat.blt q X.N) = true)
    (I : List α → G → Prop) (GI : G → Heap) (Ix : Code → List α → GX → Prop) (HX : GX → Heap) (g0 : G) (h0 : I [] g0) (hq : Pulls Hit H F1) (hq2 : Pulls (GI g0) F1 F2)
    (hround : ∀ l pre x gg, may pre x → I pre gg → ∀ w, WC ⟨X.P, some l, X.N, [], GI gg, w⟩ assign (begPost X.P l X.N body I GI Ix HX (pre ++ [x]) (GI gg) w) (pushE ps (enc x) E) (GI gg))
    (hdone : ∀ dl xs gg, all xs → I xs gg → WQ { X with D := markOf dl :: X.D } p.nrm E (dlE dl :: (GI gg ++ (Hit ++ F2))))
    (hstop : ∀ dl c pre gx, Ix c pre gx → WC { X with D := markOf dl :: X.D } c p E (dlE dl :: (HX gx ++ (Hit ++ F2)))) :
    WC X (.rangeFunc f ps.toArray assign body) p E H := by
  intro a w ha hw
  refine wpIn_rangeFunc ?_
  intro fn _
  have hF : (fen X.ro).round = none := by rw [hro]; rfl
  rw [hF]
  obtain ⟨r, er⟩ : ∃ r : Loop, r = { state := .ready, pending := none, fn, tmps := a.tmps, params := ps.toArray, assign, body, defers := w.heap.size } := ⟨_, rfl⟩
  have hwa := (hw.alloc (.deferred (some []))).alloc (.loop r)
  rw [World.size_alloc] at hwa
  -- the iterator's contract
  have hS := hit (w.heap.size + 1) (fun ys h => ∃ gg, I ys gg ∧ h = (⟨some (w.heap.size + 1), .loop r⟩ :: dlE w.heap.size :: GI gg : Heap))
    (fun ys h => ∃ c gx, Ix c ys gx ∧ h = (⟨some (w.heap.size + 1), .loop { r with state := .done, pending := some c }⟩ :: dlE w.heap.size :: HX gx : Heap))
    (fun pre x hj hx hJ => by
      obtain ⟨gg, hI, rfl⟩ := hJ
      have e1 : r.params.toList = ps := by rw [er]
      refine ySpec_of (E := E) (N := X.N) (assign := assign) (body := body) (by rw [er]) (by rw [er]) (by rw [er]) (by rw [er]) (by rw [er]; exact ha.size) (by rw [er]; exact ha.env) (by rw [← Array.length_toList, e1]; exact hlen x) (by rw [e1]; exact hps)
        (fun w' => ?_)
      rw [e1]
      exact hround _ pre x gg hx hI w')
    (⟨some (w.heap.size + 1), .loop r⟩ :: dlE w.heap.size :: GI g0) ⟨g0, h0, rfl⟩
  have hp : (⟨some (w.heap.size + 1), .loop r⟩ :: ⟨some w.heap.size, .deferred (some [])⟩ :: H : Heap).Perm ((Hit ++ (⟨some (w.heap.size + 1), .loop r⟩ :: dlE w.heap.size :: GI g0)) ++ F2) := by
    have h1 : H.Perm (Hit ++ (GI g0 ++ F2)) := hq.perm.trans (List.Perm.append_left _ hq2.perm)
    have h2 := (List.Perm.append_left [⟨some (w.heap.size + 1), .loop r⟩, dlE w.heap.size] h1)
    refine h2.trans ?_
    rw [List.append_assoc, ← List.append_assoc]
    exact List.Perm.append_right _ List.perm_append_comm |>.trans (by rw [List.append_assoc]; exact .refl _)
  have hwp := hwa.perm hp
  obtain ⟨W1, eW⟩ : ∃ W1, W1 = (w.alloc (.deferred (some []))).alloc (.loop r) := ⟨_, rfl⟩
  rw [← eW] at hwa hwp
  refine ⟨w.heap.size + 1, [markOf w.heap.size], W1, { target := .fn (.func g) ca.toArray, args := #[yieldV (w.heap.size + 1)] }, W1, g, #[yieldV (w.heap.size + 1)] ++ ca.toArray, W1, ?_, ?_, fun _ _ => trivial, ?_, ?_, ?_⟩
  · rw [eW, er]; exact run_enterLoop_outer _ _ _ _ _
  · simp only [resolve, ha.eval hf]
    simp [go_sem, yieldV]
  · have := hS.enters (#[yieldV (w.heap.size + 1)] ++ ca.toArray) W1
    simpa [invoke] using this
  · intro h; simp [fen, Fence.wide] at h
  · have hc := hS.calls _ hwp.left.hok
    have e2 : (yieldV (w.heap.size + 1) :: ca).toArray = #[yieldV (w.heap.size + 1)] ++ ca.toArray := by simp
    rw [e2] at hc
    rw [hro]
    refine CallsIn.mono hc ?_
    rintro e w3 ⟨v, H', rfl, ⟨h2, hJ, rfl⟩, hw3⟩
    have hw3' := hwa.frame hp hw3
    have ha' : ∀ (D : List Deferred), AE { X with D := D ++ X.D } E { a with defers := D ++ a.defers } := fun D => ⟨ha.size, by simp [ha.defers], ha.env⟩
    rcases hJ with ⟨xs, hall, gg, hI, rfl⟩ | ⟨pre, c, gx, hI, rfl⟩
    · have hp3 : (Hit ++ (⟨some (w.heap.size + 1), .loop r⟩ :: dlE w.heap.size :: GI gg) ++ F2 : Heap).Perm (⟨some (w.heap.size + 1), .loop r⟩ :: dlE w.heap.size :: (GI gg ++ (Hit ++ F2))) := by
        rw [List.append_assoc]
        refine (List.perm_append_comm_assoc _ _ _).trans ?_
        exact .refl _
      have h3 := hw3'.perm hp3
      refine ⟨none, w3.putObj (w.heap.size + 1) (.loop { r with state := .exhausted }), ?_, ?_⟩
      · rw [run_endLoop h3.at (by rw [er]; simp)]; rw [er]
      · exact hdone w.heap.size xs gg hall hI _ _ (ha' [markOf w.heap.size]) ((h3.turn1 (.loop { r with state := .exhausted })).drop .head)
    · have hp3 : (Hit ++ (⟨some (w.heap.size + 1), .loop { r with state := .done, pending := some c }⟩ :: dlE w.heap.size :: HX gx) ++ F2 : Heap).Perm (⟨some (w.heap.size + 1), .loop { r with state := .done, pending := some c }⟩ :: dlE w.heap.size :: (HX gx ++ (Hit ++ F2))) := by
        rw [List.append_assoc]
        refine (List.perm_append_comm_assoc _ _ _).trans ?_
        exact .refl _
      have h3 := hw3'.perm hp3
      refine ⟨some c, w3.putObj (w.heap.size + 1) (.loop { r with state := .exhausted, pending := some c }), ?_, ?_⟩
      · rw [run_endLoop h3.at (by simp)]
      · have := hstop w.heap.size c pre gx hI _ _ (ha' [markOf w.heap.size]) ((h3.turn1 (.loop { r with state := .exhausted, pending := some c })).drop .head)
        rw [hro] at this
        exact this
end Go.Proofs.YtelmlkdibcdebaaGreat
end
section
set_option linter.unusedVariables false
namespace Go.Proofs.YtelmlkdibcdebaaGreat
section
variable {κ α : Type} {ek : κ → Value} {ev : α → Value} {W : List (κ × α)} {es : Array MapEntry} {seen : Array Nat} {c : Nat} {ys : List κ}
structure KsG (ek : κ → Value) (W : List (κ × α)) (es : Array MapEntry) (seen : Array Nat) (ys : List κ) : Prop where
  src : ∀ x ∈ ys, x ∈ W.map (·.1)
  nd : ys.Nodup
  seen : ∀ e ∈ es.toList, ∀ k : κ, e.key = ek k → (e.born ∈ seen ↔ k ∈ ys)
theorem born_injG {es : List MapEntry} (h : (es.map (·.born)).Nodup) {e e2 : MapEntry} (h1 : e ∈ es) (h2 : e2 ∈ es) (h3 : e.born = e2.born) : e = e2 := by
  obtain ⟨i, hi⟩ := List.mem_iff_getElem?.1 h1
  obtain ⟨j, hj⟩ := List.mem_iff_getElem?.1 h2
  have e1 : (es.map (·.born))[i]? = some e2.born := by rw [List.getElem?_map, hi]; exact congrArg some h3
  have e3 : (es.map (·.born))[j]? = some e2.born := by rw [List.getElem?_map, hj]; rfl
  obtain ⟨l1, q1⟩ := List.getElem?_eq_some_iff.1 e1
  obtain ⟨l2, q2⟩ := List.getElem?_eq_some_iff.1 e3
  have := (List.getElem_inj h).1 (q1.trans q2.symm)
  subst this
  rw [hi] at hj
  exact Option.some.inj hj
theorem KsG.new (ek : κ → Value) (W : List (κ × α)) (es : Array MapEntry) : KsG ek W es #[] [] := ⟨fun x hx => by (cases hx), .nil, fun e _ k _ => by simp⟩
theorem KsG.next (hinj : ∀ a b, ek a = ek b → a = b) (h : KsG ek W es seen ys) (hM : Mk ek ev es c W) {e : MapEntry} (he : e ∈ es.toList) (hs : e.born ∉ seen) {k : κ} (hk : e.key = ek k) :
    (k ∈ W.map (·.1) ∧ k ∉ ys) ∧ KsG ek W es (seen.push e.born) (ys ++ [k]) := by
  obtain ⟨⟨k', v⟩, hx, e1, _⟩ := hM.back he
  obtain rfl : k' = k := hinj _ _ (e1.symm.trans hk)
  have h1 : k' ∈ W.map (·.1) := List.mem_map.2 ⟨_, hx, rfl⟩
  have h2 : k' ∉ ys := fun hm => hs ((h.seen e he k' hk).2 hm)
  refine ⟨⟨h1, h2⟩, fun x hx => ?_, ?_, fun e2 he2 k2 hk2 => ?_⟩
  · rcases List.mem_append.1 hx with hx | hx
    · exact h.src x hx
    · rw [List.mem_singleton.1 hx]; exact h1
  · rw [List.nodup_append]
    exact ⟨h.nd, by simp, fun a ha b hb => by rw [List.mem_singleton.1 hb]; rintro rfl; exact h2 ha⟩
  · rw [Array.mem_push, List.mem_append, List.mem_singleton, h.seen e2 he2 k2 hk2]
    constructor
    · rintro (q1 | q1)
      · exact .inl q1
      · have := born_injG hM.bnd he2 he q1
        subst this
        exact .inr (hinj _ _ (hk2.symm.trans hk))
    · rintro (q1 | rfl)
      · exact .inl q1
      · right
        have : e2 = e := by
          have hp := hM.perm
          have hnk : (es.toList.map (fun e => e.key)).Nodup := by
            have h5 : (es.toList.map (fun e => e.key)).Perm (W.map fun x => ek x.1) := by
              have := hp.map Prod.fst
              rw [List.map_map, List.map_map] at this
              exact this
            refine h5.nodup_iff.2 ?_
            have h6 : (W.map fun x => ek x.1) = (W.map (·.1)).map ek := by rw [List.map_map]; rfl
            rw [h6, List.nodup_iff_pairwise_ne, List.pairwise_map]
            exact List.Pairwise.imp (S := fun a b : κ => ek a ≠ ek b) (fun {a b} hab e => hab (hinj _ _ e)) (List.nodup_iff_pairwise_ne.1 hM.nodup)
          obtain ⟨i, hi⟩ := List.mem_iff_getElem?.1 he2
          obtain ⟨j, hj⟩ := List.mem_iff_getElem?.1 he
          have q3 : (es.toList.map (fun e => e.key))[i]? = some e.key := by rw [List.getElem?_map, hi]; exact congrArg some (hk2.trans hk.symm)
          have q4 : (es.toList.map (fun e => e.key))[j]? = some e.key := by rw [List.getElem?_map, hj]; rfl
          obtain ⟨l1, r1⟩ := List.getElem?_eq_some_iff.1 q3
          obtain ⟨l2, r2⟩ := List.getElem?_eq_some_iff.1 q4
          have := (List.getElem_inj hnk).1 (r1.trans r2.symm)
          subst this
          rw [hi] at hj
          exact Option.some.inj hj
        rw [this]
theorem KsG.done (h : KsG ek W es seen ys) (hM : Mk ek ev es c W) (hall : ∀ e ∈ es.toList, e.born ∈ seen) : ys.Perm (W.map (·.1)) := by
  classical
  refine (List.perm_ext_iff_of_nodup h.nd hM.nodup).2 fun a => ⟨h.src a, fun ha => ?_⟩
  obtain ⟨⟨k, v⟩, hx, rfl⟩ := List.mem_map.1 ha
  obtain ⟨e, he, hk, _⟩ := hM.has hx
  exact (h.seen e he k hk).1 (hall e he)
theorem pigeonG [DecidableEq κ] : ∀ (ks m : List κ), ks.Nodup → (∀ k ∈ ks, k ∈ m) → ks.length ≤ m.length
  | [], _, _, _ => Nat.zero_le _
  | k :: ks, m, hn, h => by
    have hk : k ∈ m := h k (List.mem_cons_self ..)
    obtain ⟨hk1, hn1⟩ := List.nodup_cons.1 hn
    have := pigeonG ks (m.erase k) hn1 (fun x hx => (List.mem_erase_of_ne (by intro e; subst e; exact hk1 hx)).2 (h x (List.mem_cons_of_mem _ hx)))
    rw [List.length_erase_of_mem hk] at this
    have hp : 0 < m.length := List.length_pos_of_mem hk
    simp only [List.length_cons]
    omega
theorem KsG.len [DecidableEq κ] (h : KsG ek W es seen ys) : ys.length ≤ W.length := by
  have := pigeonG ys (W.map (·.1)) h.nd h.src
  rwa [List.length_map] at this
structure KyG (κ : Type) where
  seen : Array Nat
  ys : List κ
  hj : Heap
/-- What lies there of a key; else 'z'. -/
def getT [DecidableEq κ] (L : List (κ × α)) (k : κ) (z : α) : α := match L.find? (fun x => decide (x.1 = k)) with
  | some x => x.2
  | none => z
theorem getT_in [DecidableEq κ] {L : List (κ × α)} (hn : (L.map (·.1)).Nodup) {k : κ} {a : α} (h : (k, a) ∈ L) (z : α) : getT L k z = a := by
  unfold getT
  cases e : L.find? (fun x => decide (x.1 = k)) with
  | none =>
    have := List.find?_eq_none.1 e (k, a) h
    simp at this
  | some y =>
    have h1 := List.find?_some e
    have h2 := List.mem_of_find?_eq_some e
    simp only [decide_eq_true_eq] at h1
    obtain ⟨k2, a2⟩ := y
    simp only at h1
    subst h1
    exact key_uniq hn h2 h
theorem getT_out [DecidableEq κ] {L : List (κ × α)} {k : κ} (h : k ∉ L.map (·.1)) (z : α) : getT L k z = z := by
  unfold getT
  rw [List.find?_eq_none.2 fun x hx => by
    simp only [decide_eq_true_eq]
    exact fun e => h (List.mem_map.2 ⟨x, hx, e⟩)]
end
/-- v := m[k], whether the key lies there or not. -/
theorem R_lookKT_ {X : Ctx} {E : Env} {H : Heap} {o : Oper} {κ α : Type} [DecidableEq κ] {ek : κ → Value} {ev : α → Value} {es : Array MapEntry} {c b : Nat} {L : List (κ × α)} {mt kt et : TypeId} {x y : Operand} {k : κ} {z : α} (ho : o.op = .lookup mt x y false) (hu : X.P.underlying mt = some (.map kt et)) (K : KeyOk X.P kt ek) (hx : Go.Proofs.YtelmlkdibcdebaaGreat.ev E x = some (.map (some b))) (hy : Go.Proofs.YtelmlkdibcdebaaGreat.ev E y = some (ek k)) (hm : (⟨some b, .map es c⟩ : Ent) ∈ H) (hM : Mk ek ev es c L)
    (hz : ∀ w, (zeroValue et).run X.P w = .ok (ev z) w) : Runs X o E H (ev (getT L k z)) := by
  by_cases h : k ∈ L.map (·.1)
  · obtain ⟨⟨k2, a⟩, hxa, rfl⟩ := List.mem_map.1 h
    rw [getT_in hM.nodup hxa]
    exact R_lookK ho hu K hx hy hm hM hxa
  · rw [getT_out h]
    exact R_lookK0 ho hu K hx hy hm hM h hz
end Go.Proofs.YtelmlkdibcdebaaGreat
end
section
set_option linter.unusedVariables false
set_option maxRecDepth 20000
set_option maxHeartbeats 2000000
namespace Go.Proofs.YtelmlkdibcdebaaGreat
structure AsI where
  l : List Int
  ob : Option Nat
  c : Nat
  tl : List Value
theorem ekW_inj (a b : Int) (h : ekW a = ekW b) : a = b := by simp only [ekW, Value.int.injEq, true_and] at h; exact h
theorem wkit_ok {W : List (Int × (Nat × Nat))} (bb mb : Nat) (es : Array MapEntry) (c : Nat) (hM : Mk ekW evW es c W) : IterAny Tryz.prog 130 [.pointer (some ⟨bb, 0, none⟩)] [⟨some bb, cl [.map (some mb)] 129⟩, ⟨some mb, .map es c⟩] (fun a : Int => [ekW a]) (fun pre x => x ∈ W.map (·.1) ∧ x ∉ pre) (fun xs => xs.Perm (W.map (·.1))) := by
  intro lp J Jx hY hj h0
  refine Spec.of (E := [(0, yieldV lp), (1, .pointer (some ⟨bb, 0, none⟩))]) Tryz.func130 rfl (by kernel_rfl) Tryz.ntmps130 rfl rfl (fun w => ?_)
  refine WC_seq ?_
  refine WC_region ?_
  refine WL_val rfl rfl rfl (R_load rfl sc129 rfl (mmZ) rfl) ?_
  refine WL_do rfl rfl rfl (D_rangeMap rfl Tryz.underlying129 rfl mmZ) ?_
  rintro _ _ ⟨bi, rfl, rfl⟩
  refine WL_nil ?_
  refine WQ_code ?_
  refine WC_block ?_
  refine WC_loopH (G := KyG Int) [3, 6, 7, 8, 9, 10, 11, 12, 13] (fun y => KsG ekW W es y.seen y.ys ∧ J y.ys y.hj) (fun y => []) (fun y => [⟨some bi, .mapIter (some mb) c y.seen c⟩, ⟨some bb, cl [.map (some mb)] 129⟩, ⟨some mb, .map es c⟩] ++ y.hj) (fun y => W.length - y.ys.length) (⟨#[], [], hj⟩) (⟨KsG.new ekW W es, h0⟩) leZ (pqZ) ?_
  rintro y ⟨hks, hJ⟩
  refine WC_seq ?_
  refine WC_region ?_
  refine WL_do rfl rfl rfl (D_nextMap rfl rfl plZ mmZ hM.born) ?_
  rintro _ _ (⟨rfl, rfl, hall⟩ | ⟨e, he, hns, rfl, rfl⟩)
  · refine WL_val rfl rfl rfl (R_extract rfl rfl rfl) ?_
    refine WL_set (s := 7) (v := .bool false) rfl (by rfl) ?_
    refine WL_nil ?_
    refine WQ_code ?_
    refine WC_seq ?_
    refine WC_F rfl ?_
    refine WC_exit ?_
    refine WQ_ret rfl rfl .nil rfl (by
        first | exact ⟨_, .inr ⟨_, hJ2⟩, rfl⟩ | exact ⟨_, .inl ⟨_, hks.done hM hall, hJ⟩, rfl⟩) (pqZ)
  · refine WL_val rfl rfl rfl (R_extract rfl rfl rfl) ?_
    refine WL_set (s := 7) (v := .bool true) rfl (by rfl) ?_
    refine WL_nil ?_
    refine WQ_code ?_
    refine WC_seq ?_
    refine WC_T rfl ?_
    refine WC_skip ?_
    refine WQ_code ?_
    refine WC_block ?_
    refine WC_seq ?_
    refine WC_region ?_
    obtain ⟨⟨k, v9⟩, hx, hek, hev⟩ := hM.back he
    dsimp only at hek hev
    obtain ⟨hmay, hks2⟩ := hks.next ekW_inj hM he hns hek
    refine WL_val rfl rfl rfl (R_entryMap rfl rfl mmZ mmZ he hM.bnd) ?_
    rw [hek, hev]
    refine WL_val rfl rfl rfl (R_extract rfl rfl rfl) ?_
    refine WL_val rfl rfl rfl (R_assign rfl rfl) ?_
    refine WL_nil ?_
    refine WQ_code ?_
    refine WC_seq ?_
    refine WC_region ?_
    refine WL_val rfl rfl rfl (R_move rfl rfl) ?_
    refine WL_val rfl rfl rfl (R_move rfl rfl) ?_
    refine WL_do rfl rfl rfl (D_yield (F := [_, _, _]) (hY y.ys k y.hj hmay hJ) rfl rfl rfl rfl (List.Perm.refl _)) ?_
    rintro _ _ ⟨hj2, (⟨rfl, hJ2⟩ | ⟨rfl, hJ2⟩), rfl⟩
    · refine WL_val rfl rfl rfl (R_not rfl rfl) ?_
      refine WL_nil ?_
      refine WQ_code ?_
      refine WC_F rfl ?_
      refine WC_skip ?_
      refine WQ_nextH (gg := y) (⟨y.seen.push e.born, y.ys ++ [k], hj2⟩) (⟨hks2, hJ2⟩) (by have := hks2.len; rw [List.length_append, List.length_singleton] at this; dsimp only; rw [List.length_append, List.length_singleton]; omega) leZ (psZ) rfl (pqZ)
    · refine WL_val rfl rfl rfl (R_not rfl rfl) ?_
      refine WL_nil ?_
      refine WQ_code ?_
      refine WC_T rfl ?_
      refine WC_ret ?_
      refine WQ_ret rfl rfl .nil rfl (by
          first | exact ⟨_, .inr ⟨_, hJ2⟩, rfl⟩ | exact ⟨_, .inl ⟨_, hks.done hM hall, hJ⟩, rfl⟩) (pqZ)
theorem wkeys_ok (mb : Nat) : Spec Tryz.prog 79 [.map (some mb)] [] (fun r H' => ∃ bb, r = .func (.func 130) #[] #[.pointer (some ⟨bb, 0, none⟩)] ∧ H' = [⟨some bb, cl [.map (some mb)] 129⟩]) := by
  refine Spec.of (E := [(0, .map (some mb))]) Tryz.func79 rfl (by kernel_rfl) Tryz.ntmps79 rfl rfl (fun w => ?_)
  refine WC_seq ?_
  refine WC_region ?_
  refine WL_do rfl rfl rfl (D_box (cs := [_]) rfl rfl rfl) ?_
  rintro _ _ ⟨b1, rfl, rfl⟩
  refine WL_val rfl rfl rfl (R_assign rfl rfl) ?_
  refine WL_nil ?_
  refine WQ_code ?_
  refine WC_seq ?_
  refine WC_region ?_
  refine WL_val rfl rfl rfl (R_makeFunc rfl rfl rfl) ?_
  refine WL_val rfl rfl rfl (R_assign rfl rfl) ?_
  refine WL_nil ?_
  refine WQ_code ?_
  refine WC_ret ?_
  refine WQ_ret rfl rfl (.cons (.tmp rfl) .nil) rfl (by
      exact ⟨b1, rfl, rfl⟩) (pqZ)
theorem wapps_ok {W : List (Int × (Nat × Nat))} (hl : W.length ≤ 1001) (bb mb : Nat) (es : Array MapEntry) (c : Nat) (hM : Mk ekW evW es c W) : Spec Tryz.prog 129 [.slice none 0 0, .func (.func 130) #[] #[.pointer (some ⟨bb, 0, none⟩)]] [⟨some bb, cl [.map (some mb)] 129⟩, ⟨some mb, .map es c⟩] (fun r H' => ∃ (xs : List Int) (o : Option Nat) (c2 : Nat) (tl : List Value), xs.Perm (W.map (·.1)) ∧ r = slV o xs.length c2 ∧ Own o xs.length c2 1 (ivs xs) tl ∧ H' = ⟨o, cl (ivs xs ++ tl) 3⟩ :: [⟨some bb, cl [.map (some mb)] 129⟩, ⟨some mb, .map es c⟩]) := by
  refine Spec.ofM (E := [(0, .slice none 0 0), (1, .func (.func 130) #[] #[.pointer (some ⟨bb, 0, none⟩)])]) Tryz.func129 rfl (by kernel_rfl) Tryz.ntmps129 rfl rfl (fun w => ?_)
  refine WC_seq ?_
  refine WC_region ?_
  refine WL_do rfl rfl rfl (D_box (cs := [_]) rfl rfl rfl) ?_
  rintro _ _ ⟨b1, rfl, rfl⟩
  refine WL_val rfl rfl rfl (R_assign rfl rfl) ?_
  refine WL_nil ?_
  refine WQ_code ?_
  refine WC_seq ?_
  refine WC_seq ?_
  refine WC_region ?_
  refine WL_val rfl rfl rfl (R_move rfl rfl) ?_
  refine WL_nil ?_
  refine WQ_code ?_
  refine WC_block ?_
  refine WC_none 3 ?_
  refine WC_rangeA (G := AsI) (GX := Unit) (wkit_ok bb mb es c hM) rfl rfl (fun _ => rfl) rfl (fun pre g => g.l = pre ∧ (pre.Nodup ∧ ∀ x ∈ pre, x ∈ W.map (·.1)) ∧ Own g.ob g.l.length g.c 1 (ivs g.l) g.tl) (fun g => [⟨some b1, cl [slV g.ob g.l.length g.c] 23⟩, ⟨g.ob, cl (ivs g.l ++ g.tl) 3⟩]) (fun _ _ _ => False) (fun _ => []) (⟨[], none, 0, []⟩) (⟨rfl, ⟨.nil, fun x hx => by cases hx⟩, Own.empty 1⟩) (pqZ) (pqZ) ?_ ?_ ?_
  · intro l pre x gg hx hI w2
    obtain ⟨hgl, ⟨hgn, hgs⟩, hgo⟩ := hI
    have hbl : gg.l.length ≤ 1001 := by rw [hgl]; have := pigeonG pre (W.map (·.1)) hgn hgs; rw [List.length_map] at this; omega
    refine WC_region ?_
    refine WL_val rfl rfl rfl (R_assign rfl rfl) ?_
    refine WL_nil ?_
    refine WQ_begin (fun w3 => ?_)
    refine WC_block ?_
    refine WC_region ?_
    refine WL_val rfl rfl rfl (R_load rfl sc23 rfl (mmZ) rfl) ?_
    refine WL_val rfl rfl rfl (R_move rfl rfl) ?_
    refine WL_do rfl rfl rfl (D_buildSlice rfl si23 rfl rfl rfl) ?_
    rintro _ _ ⟨b2, rfl, rfl⟩
    refine WL_do rfl rfl rfl (D_append rfl si23 rfl (hgo) (plZ) rfl (mmZ) ((atZ : At _ 0 [_])) (rfl) (rfl) (by omega) (by omega)) ?_
    rintro _ _ ⟨ob3, cap3, tl3, rfl, own3, rfl⟩
    rw [show ivs gg.l ++ [Value.int .i64 x] = ivs (gg.l ++ [x]) from by simp [ivs], show gg.l.length + 1 = (gg.l ++ [x]).length from by simp] at own3 ⊢
    refine WL_do0 rfl rfl (D_store (vs := [_]) rfl Tryz.sizeOf23 rfl rfl rfl rfl rfl (plZ) (by exact Nat.le_of_ble_eq_true rfl)) ?_
    rintro _ _ rfl
    refine WL_nil ?_
    refine WQ_rnd (⟨gg.l ++ [x], ob3, cap3, tl3⟩) ?_ (pqZ)
    exact (⟨by rw [← hgl], ⟨by rw [List.nodup_append]; exact ⟨hgn, by simp, fun a ha b hb => by rw [List.mem_singleton.1 hb]; rintro rfl; exact hx.2 ha⟩, fun y hy => by rcases List.mem_append.1 hy with hy | hy; exact hgs y hy; rw [List.mem_singleton.1 hy]; exact hx.1⟩, own3⟩)
  · intro dl xs gg hall hI
    obtain ⟨hgl, _, hgo⟩ := hI
    subst hgl
    refine WQ_code ?_
    refine WC_seq ?_
    refine WC_region ?_
    refine WL_val rfl rfl rfl (R_load rfl sc23 rfl (mmZ) rfl) ?_
    refine WL_val rfl rfl rfl (R_assign rfl rfl) ?_
    refine WL_nil ?_
    refine WQ_code ?_
    refine WC_ret ?_
    refine WQ_retM rfl (plZ) rfl (.cons (.tmp rfl) .nil) rfl (by
        exact ⟨gg.l, gg.ob, gg.c, gg.tl, hall, rfl, hgo, rfl⟩) (pqZ)
  · intro dl c pre gx hIx
    exact hIx.elim
theorem wcoll_ok {W : List (Int × (Nat × Nat))} (hl : W.length ≤ 1001) (bb mb : Nat) (es : Array MapEntry) (c : Nat) (hM : Mk ekW evW es c W) : Spec Tryz.prog 78 [.func (.func 130) #[] #[.pointer (some ⟨bb, 0, none⟩)]] [⟨some bb, cl [.map (some mb)] 129⟩, ⟨some mb, .map es c⟩] (fun r H' => ∃ (xs : List Int) (o : Option Nat) (c2 : Nat) (tl : List Value), xs.Perm (W.map (·.1)) ∧ r = slV o xs.length c2 ∧ Own o xs.length c2 1 (ivs xs) tl ∧ H' = ⟨o, cl (ivs xs ++ tl) 3⟩ :: [⟨some bb, cl [.map (some mb)] 129⟩, ⟨some mb, .map es c⟩]) := by
  refine Spec.of (E := [(0, .func (.func 130) #[] #[.pointer (some ⟨bb, 0, none⟩)])]) Tryz.func78 rfl (by kernel_rfl) Tryz.ntmps78 rfl rfl (fun w => ?_)
  refine WC_seq ?_
  refine WC_region ?_
  refine WL_val rfl rfl rfl (R_assign rfl rfl) ?_
  refine WL_nil ?_
  refine WQ_code ?_
  refine WC_seq ?_
  refine WC_region ?_
  refine WL_val rfl rfl rfl (R_move rfl rfl) ?_
  refine WL_do rfl rfl rfl (D_call (wapps_ok hl bb mb es c hM) rfl rfl rfl rfl (pqZ)) ?_
  rintro _ _ ⟨_, ⟨xs, o9, c9, tl9, hperm, rfl, own9, rfl⟩, rfl⟩
  refine WL_val rfl rfl rfl (R_assign rfl rfl) ?_
  refine WL_nil ?_
  refine WQ_code ?_
  refine WC_ret ?_
  refine WQ_ret rfl rfl (.cons (.tmp rfl) .nil) rfl (by
      exact ⟨xs, o9, c9, tl9, hperm, rfl, own9, rfl⟩) (pqZ)
end Go.Proofs.YtelmlkdibcdebaaGreat
end
section
set_option linter.unusedVariables false
set_option maxRecDepth 20000
namespace Go.Proofs.YtelmlkdibcdebaaGreat
structure DelW where
  j : Nat
  A : List Int
  J : List Int
theorem flt_next {p : Int → Bool} {l : List Int} {j : Nat} {x : Int} (h : l[j]? = some x) : (l.take (j + 1)).filter (fun v => !p v) = (l.take j).filter (fun v => !p v) ++ (if p x = true then [] else [x]) := by
  rw [take_next h, List.filter_append]
  cases hp : p x <;> simp [hp]
theorem drop_at {l : List Int} {j : Nat} {x : Int} (h : l[j]? = some x) : l.drop j = x :: l.drop (j + 1) := by
  obtain ⟨h1, rfl⟩ := List.getElem?_eq_some_iff.1 h
  exact List.drop_eq_getElem_cons h1
theorem mid_get {A J R : List Int} {j : Nat} (hj : A.length + J.length = j) {x : Int} : (A ++ (J ++ x :: R))[j]? = some x := by
  subst hj
  rw [List.getElem?_append_right (by omega), List.getElem?_append_right (by omega), show A.length + J.length - A.length - J.length = 0 from by omega]; rfl
theorem mid_set {A J R : List Int} {v y : Int} : (A ++ (y :: J ++ R)).set A.length v = (A ++ [v]) ++ (J ++ R) := by
  rw [List.set_append_right _ _ (Nat.le_refl _), Nat.sub_self]; simp
theorem mid_at {A J R : List Int} {y : Int} : (A ++ (y :: J ++ R))[A.length]? = some y := by
  rw [List.getElem?_append_right (Nat.le_refl _), Nat.sub_self]; rfl
/-- x put into a list from its end, past all that it beats. -/
def insR (cf : Int → Int → Int) (A : List Int) (x : Int) : List Int := (A.reverse.dropWhile (fun y => decide (cf x y < 0))).reverse ++ x :: (A.reverse.takeWhile (fun y => decide (cf x y < 0))).reverse
def isL (cf : Int → Int → Int) (l : List Int) : List Int := l.foldl (insR cf) []
theorem insR_eq {cf : Int → Int → Int} {P B : List Int} {x : Int} (hB : ∀ y ∈ B, cf x y < 0) (hP : P = [] ∨ ∃ P' y, P = P' ++ [y] ∧ ¬ cf x y < 0) : insR cf (P ++ B) x = P ++ x :: B := by
  unfold insR
  have h1 : ∀ y ∈ B.reverse, decide (cf x y < 0) = true := fun y hy => decide_eq_true (hB y (List.mem_reverse.1 hy))
  rw [List.reverse_append, List.takeWhile_append_of_pos h1, List.dropWhile_append_of_pos h1]
  rcases hP with rfl | ⟨P', y, rfl, hy⟩
  · simp
  · rw [List.reverse_append, List.reverse_singleton, List.singleton_append, List.takeWhile_cons_of_neg (by simpa using hy), List.dropWhile_cons_of_neg (by simpa using hy)]
    simp
theorem isL_next {cf : Int → Int → Int} {l : List Int} {i : Nat} {x : Int} (h : l[i]? = some x) : isL cf (l.take (i + 1)) = insR cf (isL cf (l.take i)) x := by
  unfold isL
  rw [take_next h, List.foldl_append]; rfl
theorem insR_perm (cf : Int → Int → Int) (A : List Int) (x : Int) : (insR cf A x).Perm (x :: A) := by
  unfold insR
  refine List.perm_middle.trans (.cons _ ?_)
  have e : (A.reverse.dropWhile (fun y => decide (cf x y < 0))).reverse ++ (A.reverse.takeWhile (fun y => decide (cf x y < 0))).reverse = A := by rw [← List.reverse_append, List.takeWhile_append_dropWhile, List.reverse_reverse]
  exact List.Perm.of_eq e
theorem isL_perm (cf : Int → Int → Int) (l : List Int) : (isL cf l).Perm l := by
  have key : ∀ (l A : List Int), (l.foldl (insR cf) A).Perm (A ++ l) := by
    intro l
    induction l with
    | nil => intro A; rw [List.append_nil]; exact .refl _
    | cons x r ih => intro A; exact (ih _).trans (((insR_perm cf A x).append_right r).trans List.perm_middle.symm)
  exact key l []
theorem isL_len (cf : Int → Int → Int) (l : List Int) : (isL cf l).length = l.length := (isL_perm cf l).length_eq
structure InsW where
  j : Nat
  A : List Int
  B : List Int
theorem snoc_or (P : List Int) : P = [] ∨ ∃ P' y, P = P' ++ [y] := by
  rcases List.eq_nil_or_concat P with h | ⟨P', y, h⟩
  · exact .inl h
  · exact .inr ⟨P', y, by rw [h]; simp⟩
theorem mid_atX {x : Int} {R : List Int} (A : List Int) : (A ++ x :: R)[A.length]? = some x := by
  rw [List.getElem?_append_right (Nat.le_refl _), Nat.sub_self]; rfl
theorem swap_set {P' B R : List Int} {x y : Int} : ((P' ++ [y] ++ x :: (B ++ R)).set (P' ++ [y]).length y).set P'.length x = P' ++ x :: (y :: B ++ R) := by
  rw [List.set_append_right _ _ (Nat.le_refl _), Nat.sub_self, List.set_cons_zero, List.append_assoc, List.set_append_right _ _ (Nat.le_refl _), Nat.sub_self]; rfl
end Go.Proofs.YtelmlkdibcdebaaGreat
end
section
set_option linter.unusedVariables false
set_option maxRecDepth 20000
set_option maxHeartbeats 1000000
namespace Go.Proofs.YtelmlkdibcdebaaGreat
theorem isL_one (cf : Int → Int → Int) {l : List Int} (h : 1 ≤ l.length) : isL cf (l.take 1) ++ l.drop 1 = l := by
  cases l with
  | nil => simp at h
  | cons a r => rfl
theorem isort_nil (o : Option Nat) (c : Nat) (fv : Value) (b : Int) (hb : b ≤ 1) : Spec Tryz.prog 164 [slV o 0 c, .int .i64 0, .int .i64 b, fv] [] (fun r H' => r = .tuple #[] ∧ H' = []) := by
  refine Spec.of (E := [(0, slV o 0 c), (1, .int .i64 0), (2, .int .i64 b), (3, fv)]) Tryz.func164 rfl (by kernel_rfl) Tryz.ntmps164 rfl rfl (fun w => ?_)
  refine WC_seq ?_
  refine WC_region ?_
  refine WL_val rfl rfl rfl (R_move rfl rfl) ?_
  refine WL_val rfl rfl rfl (R_add rfl rfl rfl (by omega)) ?_
  refine WL_val rfl rfl rfl (R_assign rfl rfl) ?_
  refine WL_nil ?_
  refine WQ_code ?_
  refine WC_block ?_
  refine WC_loopF (G := Unit) [8, 9, 12, 13, 14, 15, 16, 17, 18, 19, 20, 21, 22, 23, 24, 25, 26, 27, 28, 29, 30, 31, 32, 33, 34, 35, 36, 37, 38, 39, 40, 41, 42, 43, 44, 45, 46, 47, 48, 49, 50, 51, 52] (fun u => True) (fun u => [(8, .int .i64 1)]) (fun u => []) (fun u => 0) (()) (trivial) leZ (pqY) ?_
  rintro u _
  refine WC_seq ?_
  refine WC_seq ?_
  refine WC_region ?_
  refine WL_val rfl rfl rfl (R_move rfl rfl) ?_
  refine WL_val rfl rfl rfl (R_move rfl rfl) ?_
  refine WL_val rfl rfl rfl (R_lss rfl rfl rfl) ?_
  refine WL_nil ?_
  refine WQ_code ?_
  refine WC_dF rfl (by omega) ?_
  refine WC_exit ?_
  refine WQ_ret rfl rfl .nil rfl (by
      exact ⟨rfl, rfl⟩) (pqY)
theorem isort_ok (l : List Int) (wa c : Nat) (tl : List Value) (gf : Nat) (ca : List Value) (Hc : Heap) (cf : Int → Int → Int) (hf : ∀ a ∈ l, ∀ b ∈ l, Spec Tryz.prog gf (.int .i64 a :: .int .i64 b :: ca) Hc (fun r H' => r = .int .i64 (cf a b) ∧ Hc = H')) (hl : 1 ≤ l.length) (hb : l.length ≤ 1000000) :
    Spec Tryz.prog 164 [slV (some wa) l.length c, .int .i64 0, .int .i64 (l.length : Int), .func (.func gf) #[] ca.toArray] (⟨some wa, cl (ivs l ++ tl) 3⟩ :: Hc) (fun r H' => r = .tuple #[] ∧ H' = ⟨some wa, cl (ivs (isL cf l) ++ tl) 3⟩ :: Hc) := by
  refine Spec.of (E := [(0, slV (some wa) l.length c), (1, .int .i64 0), (2, .int .i64 (l.length : Int)), (3, .func (.func gf) #[] ca.toArray)]) Tryz.func164 rfl (by kernel_rfl) Tryz.ntmps164 rfl rfl (fun w => ?_)
  refine WC_seq ?_
  refine WC_region ?_
  refine WL_val rfl rfl rfl (R_move rfl rfl) ?_
  refine WL_val rfl rfl rfl (R_add rfl rfl rfl (by omega)) ?_
  refine WL_val rfl rfl rfl (R_assign rfl rfl) ?_
  refine WL_nil ?_
  refine WQ_code ?_
  refine WC_block ?_
  rw [show cl (ivs l ++ tl) 3 = cl (ivs (isL cf (l.take 1) ++ l.drop 1) ++ tl) 3 from by rw [isL_one cf hl]]
  refine WC_loopF (G := Nat) [8, 9, 12, 13, 14, 15, 16, 17, 18, 19, 20, 21, 22, 23, 24, 25, 26, 27, 28, 29, 30, 31, 32, 33, 34, 35, 36, 37, 38, 39, 40, 41, 42, 43, 44, 45, 46, 47, 48, 49, 50, 51, 52] (fun k => 1 ≤ k ∧ k ≤ l.length) (fun k => [(8, .int .i64 (k : Int))]) (fun k => [⟨some wa, cl (ivs (isL cf (l.take k) ++ l.drop k) ++ tl) 3⟩]) (fun k => l.length - k) (1) (⟨Nat.le_refl _, hl⟩) leZ (pqY) ?_
  rintro k ⟨hk1, hk⟩
  refine WC_seq ?_
  refine WC_seq ?_
  refine WC_region ?_
  refine WL_val rfl rfl rfl (R_move rfl rfl) ?_
  refine WL_val rfl rfl rfl (R_move rfl rfl) ?_
  refine WL_val rfl rfl rfl (R_lss rfl rfl rfl) ?_
  refine WL_nil ?_
  refine WQ_code ?_
  refine WC_dec rfl (fun c1 => ?_) (fun c1 => ?_)
  · refine WC_skip ?_
    refine WQ_code ?_
    refine WC_seq ?_
    refine WC_block ?_
    refine WC_seq ?_
    refine WC_region ?_
    refine WL_val rfl rfl rfl (R_move rfl rfl) ?_
    refine WL_val rfl rfl rfl (R_assign rfl rfl) ?_
    refine WL_nil ?_
    refine WQ_code ?_
    refine WC_block ?_
    obtain ⟨x, hx⟩ := getE (T := l) (i := k) (by omega)
    have hxl := List.mem_of_getElem? hx
    rw [show cl (ivs (isL cf (l.take k) ++ l.drop k) ++ tl) 3 = cl (ivs (isL cf (l.take k) ++ x :: ([] ++ l.drop (k + 1))) ++ tl) 3 from by rw [drop_at hx]; rfl]
    refine WC_loopF (G := InsW) [9, 18, 19, 20, 21, 22, 23, 24, 25, 26, 27, 28, 29, 30, 31, 32, 33, 34, 35, 36, 37, 38, 39, 40, 41, 42, 43, 44, 45, 46, 47, 48, 49, 50, 51, 52] (fun y => y.j = y.A.length ∧ isL cf (l.take k) = y.A ++ y.B ∧ ∀ z ∈ y.B, cf x z < 0) (fun y => [(9, .int .i64 (y.j : Int))]) (fun y => [⟨some wa, cl (ivs (y.A ++ x :: (y.B ++ l.drop (k + 1))) ++ tl) 3⟩]) (fun y => y.j) (⟨k, isL cf (l.take k), []⟩) (⟨by dsimp only; rw [isL_len, List.length_take]; omega, (List.append_nil _).symm, fun z hz => by cases hz⟩) leZ (pqY) ?_
    rintro y ⟨hj, hAB, hBx⟩
    have hjk : y.j ≤ k := by have h8 := isL_len cf (l.take k); rw [hAB, List.length_append, List.length_take] at h8; omega
    refine WC_seq ?_
    refine WC_seq ?_
    refine WC_draw _ [(0, true), (1, true), (2, true), (3, true), (4, true), (5, true), (6, true), (7, true), (8, true), (9, true), (10, true), (11, true), (12, true), (13, true), (14, false), (15, true), (16, true)] followsMixed rfl rfl (by kernel_rfl) .all ?_
    refine WM_val rfl rfl rfl rfl (R_move rfl rfl) ?_
    refine WM_val rfl rfl rfl rfl (R_move rfl rfl) ?_
    refine WM_val rfl rfl rfl rfl (R_gtr rfl rfl rfl) ?_
    refine WM_val rfl rfl rfl rfl (R_move rfl rfl) ?_
    refine WM_splitD (s := 21) rfl (fun c2 => ?_) (fun c2 => ?_)
    · obtain ⟨P2, y2, hP⟩ : ∃ P2 y2, y.A = P2 ++ [y2] := by rcases snoc_or y.A with e | e; rw [e] at hj; simp at hj; omega; exact e
      have hjl : y.j = P2.length + 1 := by rw [hj, hP, List.length_append]; rfl
      have hlast : (y.A ++ x :: (y.B ++ l.drop (k + 1)))[P2.length]? = some y2 := by rw [hP, List.append_assoc, List.getElem?_append_right (Nat.le_refl _), Nat.sub_self]; rfl
      have hyl : y2 ∈ l := List.mem_of_mem_take ((isL_perm cf (l.take k)).mem_iff.1 (by rw [hAB, hP]; simp))
      have hxat : (y.A ++ x :: (y.B ++ l.drop (k + 1)))[y.A.length]? = some x := mid_atX y.A
      have hsw1 : putAt (ivs (y.A ++ x :: (y.B ++ l.drop (k + 1))) ++ tl) (0 + y.A.length * 1) [.int .i64 y2] = ivs ((y.A ++ x :: (y.B ++ l.drop (k + 1))).set y.A.length y2) ++ tl := by have := fm_put0 encI1 y2 hxat (j := 0) (vs := [.int .i64 y2]) (by simp) rfl (tl := tl); rw [Nat.add_zero] at this; exact this
      have hP2at : ((y.A ++ x :: (y.B ++ l.drop (k + 1))).set y.A.length y2)[P2.length]? = some y2 := by rw [List.getElem?_set_ne (by rw [hP, List.length_append]; simp), hlast]
      have hsw2 : putAt (ivs ((y.A ++ x :: (y.B ++ l.drop (k + 1))).set y.A.length y2) ++ tl) (0 + P2.length * 1) [.int .i64 x] = ivs (P2 ++ x :: ((y2 :: y.B) ++ l.drop (k + 1))) ++ tl := by have := fm_put0 encI1 x hP2at (j := 0) (vs := [.int .i64 x]) (by simp) rfl (tl := tl); rw [Nat.add_zero] at this; rw [show ivs (P2 ++ x :: ((y2 :: y.B) ++ l.drop (k + 1))) = (((y.A ++ x :: (y.B ++ l.drop (k + 1))).set y.A.length y2).set P2.length x).flatMap encI from by rw [hP, swap_set]]; exact this
      refine WM_val rfl rfl rfl rfl (R_move rfl rfl) ?_
      refine WM_val rfl rfl rfl rfl (R_move rfl rfl) ?_
      refine WM_val rfl rfl rfl rfl (R_move rfl rfl) ?_
      first | refine WZ_set (s := 24) (v := .int .i64 ((y.A.length : Nat) : Int)) rfl (by rw [hj]) ?_ | refine WM_set (s := 24) (v := .int .i64 ((y.A.length : Nat) : Int)) rfl (by rw [hj]) ?_
      refine WM_val rfl rfl rfl rfl (R_indexAddrN rfl Tryz.underlying23 Tryz.sizeOf3 rfl rfl (by omega)) ?_
      refine WM_val rfl rfl rfl rfl (R_load (v := .int .i64 x) rfl sc3 rfl (mmY) (fm_get0 encI1 (mid_atX (x := x) (R := y.B ++ l.drop (k + 1)) y.A) (j := 0) (by omega))) ?_
      refine WM_val rfl rfl rfl rfl (R_move rfl rfl) ?_
      refine WM_val rfl rfl rfl rfl (R_move rfl rfl) ?_
      refine WM_val rfl rfl rfl rfl (R_sub rfl rfl rfl (by omega)) ?_
      first | refine WZ_set (s := 29) (v := .int .i64 ((P2.length : Nat) : Int)) rfl (by rw [hjl]; exact congrArg (Value.int .i64) (by omega)) ?_ | refine WM_set (s := 29) (v := .int .i64 ((P2.length : Nat) : Int)) rfl (by rw [hjl]; exact congrArg (Value.int .i64) (by omega)) ?_
      refine WM_val rfl rfl rfl rfl (R_indexAddrN rfl Tryz.underlying23 Tryz.sizeOf3 rfl rfl (by omega)) ?_
      refine WM_val rfl rfl rfl rfl (R_load (v := .int .i64 y2) rfl sc3 rfl (mmY) (fm_get0 encI1 hlast (j := 0) (by omega))) ?_
      refine WM_do rfl rfl rfl rfl (D_call (hf x hxl y2 hyl) rfl rfl rfl rfl (pqY)) ?_
      rintro _ _ ⟨_, ⟨rfl, rfl⟩, rfl⟩
      refine ⟨⟨_, pqY⟩, ?_⟩
      refine WM_val rfl rfl rfl rfl (R_lss rfl rfl rfl) ?_
      refine WM_val rfl rfl rfl rfl (R_pickT rfl rfl rfl) ?_
      refine WM_nil ?_
      refine WQ_code ?_
      refine WC_dec rfl (fun c3 => ?_) (fun c3 => ?_)
      · have hc := c3
        refine WC_skip ?_
        refine WQ_code ?_
        refine WC_seq ?_
        refine WC_block ?_
        refine WC_drawE [⟨some wa, _⟩] [(0, false), (1, false), (2, false), (3, false), (4, false), (5, false), (6, false), (7, false), (8, false), (9, true), (10, false), (11, false), (12, false), (13, true)] [(14, true), (15, false), (16, true), (17, false)] followsMixed rfl rfl (by kernel_rfl) (pqY) ?_
        refine WZ_val rfl rfl rfl rfl (R_move rfl rfl) ?_
        refine WZ_val rfl rfl rfl rfl (R_move rfl rfl) ?_
        first | refine WZ_set (s := 38) (v := .int .i64 ((y.A.length : Nat) : Int)) rfl (by rw [hj]) ?_ | refine WM_set (s := 38) (v := .int .i64 ((y.A.length : Nat) : Int)) rfl (by rw [hj]) ?_
        refine WZ_val rfl rfl rfl rfl (R_move rfl rfl) ?_
        refine WZ_val rfl rfl rfl rfl (R_move rfl rfl) ?_
        refine WZ_val rfl rfl rfl rfl (R_sub rfl rfl rfl (by omega)) ?_
        first | refine WZ_set (s := 41) (v := .int .i64 ((P2.length : Nat) : Int)) rfl (by rw [hjl]; exact congrArg (Value.int .i64) (by omega)) ?_ | refine WM_set (s := 41) (v := .int .i64 ((P2.length : Nat) : Int)) rfl (by rw [hjl]; exact congrArg (Value.int .i64) (by omega)) ?_
        refine WZ_val rfl rfl rfl rfl (R_move rfl rfl) ?_
        refine WZ_val rfl rfl rfl rfl (R_move rfl rfl) ?_
        refine WZ_val rfl rfl rfl rfl (R_sub rfl rfl rfl (by omega)) ?_
        first | refine WZ_set (s := 44) (v := .int .i64 ((P2.length : Nat) : Int)) rfl (by rw [hjl]; exact congrArg (Value.int .i64) (by omega)) ?_ | refine WM_set (s := 44) (v := .int .i64 ((P2.length : Nat) : Int)) rfl (by rw [hjl]; exact congrArg (Value.int .i64) (by omega)) ?_
        refine WZ_val rfl rfl rfl rfl (R_indexAddrN rfl Tryz.underlying23 Tryz.sizeOf3 rfl rfl (by omega)) ?_
        refine WZ_early rfl rfl rfl rfl (R_load (v := .int .i64 y2) rfl sc3 rfl (mmY) (fm_get0 encI1 hlast (j := 0) (by omega))) ?_
        refine WZ_val rfl rfl rfl rfl (R_move rfl rfl) ?_
        refine WZ_val rfl rfl rfl rfl (R_move rfl rfl) ?_
        first | refine WZ_set (s := 48) (v := .int .i64 ((y.A.length : Nat) : Int)) rfl (by rw [hj]) ?_ | refine WM_set (s := 48) (v := .int .i64 ((y.A.length : Nat) : Int)) rfl (by rw [hj]) ?_
        refine WZ_val rfl rfl rfl rfl (R_indexAddrN rfl Tryz.underlying23 Tryz.sizeOf3 rfl rfl (by omega)) ?_
        refine WZ_early rfl rfl rfl rfl (R_load (v := .int .i64 x) rfl sc3 rfl (mmY) (fm_get0 encI1 (mid_atX (x := x) (R := y.B ++ l.drop (k + 1)) y.A) (j := 0) (by omega))) ?_
        refine WZ_rest ?_
        refine WM_val rfl rfl rfl rfl (R_indexAddrN rfl Tryz.underlying23 Tryz.sizeOf3 rfl rfl (by omega)) ?_
        refine WM_do0 rfl rfl rfl (D_store (vs := [_]) rfl Tryz.sizeOf3 rfl rfl rfl rfl rfl (plY) (by exact fm_room0 encI1 (show y.A.length < (y.A ++ x :: (y.B ++ l.drop (k + 1))).length by rw [List.length_append]; simp) (j := 0) (by omega))) ?_
        rintro _ _ rfl
        refine ⟨⟨_, pqY⟩, ?_⟩
        rw [hsw1]
        refine WM_val rfl rfl rfl rfl (R_indexAddrN rfl Tryz.underlying23 Tryz.sizeOf3 rfl rfl (by omega)) ?_
        refine WM_do0 rfl rfl rfl (D_store (vs := [_]) rfl Tryz.sizeOf3 rfl rfl rfl rfl rfl (plY) (by exact fm_room0 encI1 (show P2.length < ((y.A ++ x :: (y.B ++ l.drop (k + 1))).set y.A.length y2).length by rw [List.length_set, List.length_append, hP, List.length_append]; simp; omega) (j := 0) (by omega))) ?_
        rintro _ _ rfl
        refine ⟨⟨_, pqY⟩, ?_⟩
        rw [hsw2]
        refine WM_nil ?_
        refine WQ_code ?_
        refine WC_region ?_
        refine WL_val rfl rfl rfl (R_move rfl rfl) ?_
        refine WL_val rfl rfl rfl (R_sub rfl rfl rfl (by omega)) ?_
        refine WL_set (s := 36) (v := .int .i64 ((P2.length : Nat) : Int)) rfl (by rw [hjl]; exact congrArg (Value.int .i64) (by omega)) ?_
        refine WL_val rfl rfl rfl (R_assign rfl rfl) ?_
        refine WL_nil ?_
        refine WQ_nextF (⟨P2.length, P2, y2 :: y.B⟩) (⟨rfl, by rw [hAB, hP]; simp, fun z hz => by rcases List.mem_cons.1 hz with rfl | hz; exact hc; exact hBx z hz⟩) (by dsimp only; omega) leZ (psZ) rfl (pqY)
      · have hc := c3
        have hex : y.A = [] ∨ ∃ P z, y.A = P ++ [z] ∧ ¬ cf x z < 0 := .inr ⟨P2, y2, hP, hc⟩
        refine WC_exit ?_
        refine WQ_code ?_
        refine WC_region ?_
        refine WL_val rfl rfl rfl (R_move rfl rfl) ?_
        refine WL_val rfl rfl rfl (R_add rfl rfl rfl (by omega)) ?_
        refine WL_val rfl rfl rfl (R_assign rfl rfl) ?_
        refine WL_nil ?_
        rw [show cl (ivs (y.A ++ x :: (y.B ++ l.drop (k + 1))) ++ tl) 3 = cl (ivs (isL cf (l.take (k + 1)) ++ l.drop (k + 1)) ++ tl) 3 from by rw [isL_next hx, hAB, insR_eq hBx hex]; simp]
        refine WQ_nextF (k + 1) (⟨by omega, by omega⟩) (by omega) leZ (psZ) rfl (pqY)
    · have hex : y.A = [] ∨ ∃ P z, y.A = P ++ [z] ∧ ¬ cf x z < 0 := .inl (List.eq_nil_of_length_eq_zero (by omega))
      refine WM_skip rfl rfl rfl rfl ?_
      refine WM_skip rfl rfl rfl rfl ?_
      refine WM_skip rfl rfl rfl rfl ?_
      refine WM_skip rfl rfl rfl rfl ?_
      refine WM_skip rfl rfl rfl rfl ?_
      refine WM_skip rfl rfl rfl rfl ?_
      refine WM_skip rfl rfl rfl rfl ?_
      refine WM_skip rfl rfl rfl rfl ?_
      refine WM_skip rfl rfl rfl rfl ?_
      refine WM_skip rfl rfl rfl rfl ?_
      refine WM_skipF rfl rfl rfl rfl (pqY) ?_
      refine WM_skip rfl rfl rfl rfl ?_
      refine WM_val rfl rfl rfl rfl (R_pickF rfl rfl rfl) ?_
      refine WM_nil ?_
      refine WQ_code ?_
      refine WC_F rfl ?_
      refine WC_exit ?_
      refine WQ_code ?_
      refine WC_region ?_
      refine WL_val rfl rfl rfl (R_move rfl rfl) ?_
      refine WL_val rfl rfl rfl (R_add rfl rfl rfl (by omega)) ?_
      refine WL_val rfl rfl rfl (R_assign rfl rfl) ?_
      refine WL_nil ?_
      rw [show cl (ivs (y.A ++ x :: (y.B ++ l.drop (k + 1))) ++ tl) 3 = cl (ivs (isL cf (l.take (k + 1)) ++ l.drop (k + 1)) ++ tl) 3 from by rw [isL_next hx, hAB, insR_eq hBx hex]; simp]
      refine WQ_nextF (k + 1) (⟨by omega, by omega⟩) (by omega) leZ (psZ) rfl (pqY)
  · have hkl : k = l.length := by omega
    refine WC_exit ?_
    rw [hkl, List.take_length, List.drop_length, List.append_nil]
    refine WQ_ret rfl rfl .nil rfl (by
        exact ⟨rfl, rfl⟩) (pqY)
theorem stab_nil (o : Option Nat) (c : Nat) (fv : Value) : Spec Tryz.prog 134 [slV o 0 c, .int .i64 0, fv] [] (fun r H' => r = .tuple #[] ∧ H' = []) := by
  refine Spec.of (E := [(0, slV o 0 c), (1, .int .i64 0), (2, fv)]) Tryz.func134 rfl (by kernel_rfl) Tryz.ntmps134 rfl rfl (fun w => ?_)
  refine WC_seq ?_
  refine WC_region ?_
  refine WL_val rfl rfl rfl (R_assign rfl rfl) ?_
  refine WL_nil ?_
  refine WQ_code ?_
  refine WC_seq ?_
  refine WC_region ?_
  refine WL_val rfl rfl rfl (R_move rfl rfl) ?_
  refine WL_val rfl rfl rfl (R_assign rfl rfl) ?_
  refine WL_val rfl rfl rfl (R_assign rfl rfl) ?_
  refine WL_nil ?_
  refine WQ_code ?_
  refine WC_seq ?_
  refine WC_block ?_
  refine WC_loopF (G := Unit) [7, 8, 11, 12, 13, 14, 15, 16, 17, 18, 19, 20, 21, 22] (fun u => True) (fun u => [(7, .int .i64 0), (8, .int .i64 20)]) (fun u => []) (fun u => 0) (()) (trivial) leZ (pqY) ?_
  rintro u _
  refine WC_seq ?_
  refine WC_seq ?_
  refine WC_region ?_
  refine WL_val rfl rfl rfl (R_move rfl rfl) ?_
  refine WL_val rfl rfl rfl (R_move rfl rfl) ?_
  refine WL_val rfl rfl rfl (R_leq rfl rfl rfl) ?_
  refine WL_nil ?_
  refine WQ_code ?_
  refine WC_dF rfl (by omega) ?_
  refine WC_exit ?_
  refine WQ_code ?_
  refine WC_seq ?_
  refine WC_region ?_
  refine WL_val rfl rfl rfl (R_move rfl rfl) ?_
  refine WL_val rfl rfl rfl (R_move rfl rfl) ?_
  refine WL_val rfl rfl rfl (R_move rfl rfl) ?_
  refine WL_val rfl rfl rfl (R_move rfl rfl) ?_
  refine WL_do rfl rfl rfl (D_call (isort_nil o c fv 0 (by omega)) rfl rfl rfl rfl (pqY)) ?_
  rintro _ _ ⟨_, ⟨rfl, rfl⟩, rfl⟩
  refine WL_nil ?_
  refine WQ_code ?_
  refine WC_block ?_
  refine WC_loopF (G := Unit) [6, 7, 8, 9, 28, 29, 30, 31, 32, 33, 34, 35, 36, 37, 38, 39, 40, 41, 42, 43, 44, 45, 46, 47, 48, 49, 50, 51, 52, 53, 54, 55, 56, 57, 58, 59, 60, 61, 62] (fun u => True) (fun u => [(6, .int .i64 20)]) (fun u => []) (fun u => 0) (()) (trivial) leZ (pqY) ?_
  rintro u _
  refine WC_seq ?_
  refine WC_seq ?_
  refine WC_region ?_
  refine WL_val rfl rfl rfl (R_move rfl rfl) ?_
  refine WL_val rfl rfl rfl (R_move rfl rfl) ?_
  refine WL_val rfl rfl rfl (R_lss rfl rfl rfl) ?_
  refine WL_nil ?_
  refine WQ_code ?_
  refine WC_dF rfl (by omega) ?_
  refine WC_exit ?_
  refine WQ_ret rfl rfl .nil rfl (by
      exact ⟨rfl, rfl⟩) (pqY)
theorem stab_some (l : List Int) (wa c : Nat) (tl : List Value) (gf : Nat) (ca : List Value) (Hc : Heap) (cf : Int → Int → Int) (hf : ∀ a ∈ l, ∀ b ∈ l, Spec Tryz.prog gf (.int .i64 a :: .int .i64 b :: ca) Hc (fun r H' => r = .int .i64 (cf a b) ∧ Hc = H')) (hl : 1 ≤ l.length) (hb : l.length ≤ 19) :
    Spec Tryz.prog 134 [slV (some wa) l.length c, .int .i64 (l.length : Int), .func (.func gf) #[] ca.toArray] (⟨some wa, cl (ivs l ++ tl) 3⟩ :: Hc) (fun r H' => r = .tuple #[] ∧ H' = ⟨some wa, cl (ivs (isL cf l) ++ tl) 3⟩ :: Hc) := by
  refine Spec.of (E := [(0, slV (some wa) l.length c), (1, .int .i64 (l.length : Int)), (2, .func (.func gf) #[] ca.toArray)]) Tryz.func134 rfl (by kernel_rfl) Tryz.ntmps134 rfl rfl (fun w => ?_)
  refine WC_seq ?_
  refine WC_region ?_
  refine WL_val rfl rfl rfl (R_assign rfl rfl) ?_
  refine WL_nil ?_
  refine WQ_code ?_
  refine WC_seq ?_
  refine WC_region ?_
  refine WL_val rfl rfl rfl (R_move rfl rfl) ?_
  refine WL_val rfl rfl rfl (R_assign rfl rfl) ?_
  refine WL_val rfl rfl rfl (R_assign rfl rfl) ?_
  refine WL_nil ?_
  refine WQ_code ?_
  refine WC_seq ?_
  refine WC_block ?_
  refine WC_loopF (G := Unit) [7, 8, 11, 12, 13, 14, 15, 16, 17, 18, 19, 20, 21, 22] (fun u => True) (fun u => [(7, .int .i64 0), (8, .int .i64 20)]) (fun u => []) (fun u => 0) (()) (trivial) leZ (pqY) ?_
  rintro u _
  refine WC_seq ?_
  refine WC_seq ?_
  refine WC_region ?_
  refine WL_val rfl rfl rfl (R_move rfl rfl) ?_
  refine WL_val rfl rfl rfl (R_move rfl rfl) ?_
  refine WL_val rfl rfl rfl (R_leq rfl rfl rfl) ?_
  refine WL_nil ?_
  refine WQ_code ?_
  refine WC_dF rfl (by omega) ?_
  refine WC_exit ?_
  refine WQ_code ?_
  refine WC_seq ?_
  refine WC_region ?_
  refine WL_val rfl rfl rfl (R_move rfl rfl) ?_
  refine WL_val rfl rfl rfl (R_move rfl rfl) ?_
  refine WL_val rfl rfl rfl (R_move rfl rfl) ?_
  refine WL_val rfl rfl rfl (R_move rfl rfl) ?_
  refine WL_do rfl rfl rfl (D_call (isort_ok l wa c tl gf ca Hc cf hf hl (by omega)) rfl rfl rfl rfl (pqY)) ?_
  rintro _ _ ⟨_, ⟨rfl, rfl⟩, rfl⟩
  refine WL_nil ?_
  refine WQ_code ?_
  refine WC_block ?_
  refine WC_loopF (G := Unit) [6, 7, 8, 9, 28, 29, 30, 31, 32, 33, 34, 35, 36, 37, 38, 39, 40, 41, 42, 43, 44, 45, 46, 47, 48, 49, 50, 51, 52, 53, 54, 55, 56, 57, 58, 59, 60, 61, 62] (fun u => True) (fun u => [(6, .int .i64 20)]) (fun u => []) (fun u => 0) (()) (trivial) leZ (pqY) ?_
  rintro u _
  refine WC_seq ?_
  refine WC_seq ?_
  refine WC_region ?_
  refine WL_val rfl rfl rfl (R_move rfl rfl) ?_
  refine WL_val rfl rfl rfl (R_move rfl rfl) ?_
  refine WL_val rfl rfl rfl (R_lss rfl rfl rfl) ?_
  refine WL_nil ?_
  refine WQ_code ?_
  refine WC_dF rfl (by omega) ?_
  refine WC_exit ?_
  refine WQ_ret rfl rfl .nil rfl (by
      exact ⟨rfl, rfl⟩) (pqY)
theorem stabf_nil (o : Option Nat) (c : Nat) (fv : Value) : Spec Tryz.prog 87 [slV o 0 c, fv] [] (fun r H' => r = .tuple #[] ∧ H' = []) := by
  refine Spec.of (E := [(0, slV o 0 c), (1, fv)]) Tryz.func87 rfl (by kernel_rfl) Tryz.ntmps87 rfl rfl (fun w => ?_)
  refine WC_region ?_
  refine WL_val rfl rfl rfl (R_move rfl rfl) ?_
  refine WL_val rfl rfl rfl (R_move rfl rfl) ?_
  refine WL_val rfl rfl rfl (R_len rfl Tryz.underlying23 rfl) ?_
  refine WL_val rfl rfl rfl (R_move rfl rfl) ?_
  refine WL_do rfl rfl rfl (D_call (stab_nil o c fv) rfl rfl rfl rfl (pqY)) ?_
  rintro _ _ ⟨_, ⟨rfl, rfl⟩, rfl⟩
  refine WL_nil ?_
  refine WQ_ret rfl rfl .nil rfl (by
      exact ⟨rfl, rfl⟩) (pqY)
theorem stabf_some (l : List Int) (wa c : Nat) (tl : List Value) (gf : Nat) (ca : List Value) (Hc : Heap) (cf : Int → Int → Int) (hf : ∀ a ∈ l, ∀ b ∈ l, Spec Tryz.prog gf (.int .i64 a :: .int .i64 b :: ca) Hc (fun r H' => r = .int .i64 (cf a b) ∧ Hc = H')) (hl : 1 ≤ l.length) (hb : l.length ≤ 19) :
    Spec Tryz.prog 87 [slV (some wa) l.length c, .func (.func gf) #[] ca.toArray] (⟨some wa, cl (ivs l ++ tl) 3⟩ :: Hc) (fun r H' => r = .tuple #[] ∧ H' = ⟨some wa, cl (ivs (isL cf l) ++ tl) 3⟩ :: Hc) := by
  refine Spec.of (E := [(0, slV (some wa) l.length c), (1, .func (.func gf) #[] ca.toArray)]) Tryz.func87 rfl (by kernel_rfl) Tryz.ntmps87 rfl rfl (fun w => ?_)
  refine WC_region ?_
  refine WL_val rfl rfl rfl (R_move rfl rfl) ?_
  refine WL_val rfl rfl rfl (R_move rfl rfl) ?_
  refine WL_val rfl rfl rfl (R_len rfl Tryz.underlying23 rfl) ?_
  refine WL_val rfl rfl rfl (R_move rfl rfl) ?_
  refine WL_do rfl rfl rfl (D_call (stab_some l wa c tl gf ca Hc cf hf hl hb) rfl rfl rfl rfl (pqY)) ?_
  rintro _ _ ⟨_, ⟨rfl, rfl⟩, rfl⟩
  refine WL_nil ?_
  refine WQ_ret rfl rfl .nil rfl (by
      exact ⟨rfl, rfl⟩) (pqY)
/-- SortStableFunc of few elements: they are put in one by one. -/
theorem stabf_ok (l : List Int) (o : Option Nat) (c : Nat) (tl : List Value) (own : Own o l.length c 1 (ivs l) tl) (gf : Nat) (ca : List Value) (Hc : Heap) (cf : Int → Int → Int) (hf : ∀ a ∈ l, ∀ b ∈ l, Spec Tryz.prog gf (.int .i64 a :: .int .i64 b :: ca) Hc (fun r H' => r = .int .i64 (cf a b) ∧ Hc = H')) (hb : l.length ≤ 19) :
    Spec Tryz.prog 87 [slV o l.length c, .func (.func gf) #[] ca.toArray] (⟨o, cl (ivs l ++ tl) 3⟩ :: Hc) (fun r H' => r = .tuple #[] ∧ H' = ⟨o, cl (ivs (isL cf l) ++ tl) 3⟩ :: Hc) := by
  by_cases hl : 1 ≤ l.length
  · obtain ⟨wa, rfl⟩ := own.some_of (by omega)
    exact stabf_some l wa c tl gf ca Hc cf hf hl hb
  · have h0 : l = [] := List.eq_nil_of_length_eq_zero (by omega)
    subst h0
    exact ((stabf_nil o c (.func (.func gf) #[] ca.toArray)).fr (⟨o, cl (ivs [] ++ tl) 3⟩ :: Hc)).mono fun r H' ⟨H1, ⟨h1, h2⟩, h3⟩ => ⟨h1, by rw [h3, h2]; rfl⟩
end Go.Proofs.YtelmlkdibcdebaaGreat
end
