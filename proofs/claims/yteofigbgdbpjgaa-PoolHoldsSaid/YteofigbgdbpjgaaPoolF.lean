/-
  Chapter 46 (pool), part PoolF: contracts of functions that the laws call, each for the heap it names.
-/
import Derived.Test.YteofigbgdbpjgaaRows
import Derived.Test.YteofigbgdbpjgaaZB
import Derived.Test.YteofigbgdbpjgaaSLMapJ
import Derived.Test.YteofigbgdbpjgaaSLScope
import Derived.Test.YteofigbgdbpjgaaTab
import Derived.Test.YteofigbgdbpjgaaPoolE
set_option linter.unusedVariables false
set_option maxRecDepth 20000
set_option maxHeartbeats 1000000
namespace Go.Proofs.Yteofigbgdbpjgaa


theorem pput_true {m : PM} {s : PS} (h : PIs m s) (hE : s.E.length ≤ 10000) (c : Int) (now : Nat) (hb : now ≤ 18446744073709551615) : Spec Try.prog 12 [ptrP m.p, .int .i64 c, .bool true, .int .u64 (now : Int)] (poH m s) (fun r H' => ∃ m', r = .int .i64 (s.inE c 2 now) ∧ H' = poH m' (s.put c true now) ∧ m'.p = m.p ∧ PIs m' (s.put c true now)) := by
  refine Spec.of (E := [(0, ptrP m.p), (1, .int .i64 c), (2, .bool true), (3, .int .u64 (now : Int))]) Try.func12 rfl (by kernel_rfl) Try.ntmps12 rfl rfl (fun w => ?_)
  refine WC_seq ?_
  refine WC_region ?_
  refine WL_val rfl rfl rfl (R_assign rfl rfl) ?_
  refine WL_nil ?_
  refine WQ_code ?_
  refine WC_seq ?_
  refine WC_seq ?_
  refine WC_region ?_
  refine WL_val rfl rfl rfl (R_move rfl rfl) ?_
  refine WL_val rfl rfl rfl (R_move rfl rfl) ?_
  refine WL_val rfl rfl rfl (R_move rfl rfl) ?_
  refine WL_do rfl rfl rfl (D_call (pin_ok h hE c 2 now) rfl rfl rfl rfl (pqZ)) ?_
  rintro _ _ ⟨_, ⟨rfl, rfl⟩, rfl⟩
  refine WL_val rfl rfl rfl (R_assign rfl rfl) ?_
  refine WL_nil ?_
  refine WQ_code ?_
  refine WC_seq ?_
  refine WC_region ?_
  refine WL_val rfl rfl rfl (R_move rfl rfl) ?_
  refine WL_val rfl rfl rfl (R_neq rfl rfl rfl) ?_
  refine WL_nil ?_
  refine WQ_code ?_
  refine WC_dec rfl (fun c1 => ?_) (fun c1 => ?_)
  · have hm := c1
    refine WC_seq ?_
    refine WC_region ?_
    refine WL_val rfl rfl rfl (R_move rfl rfl) ?_
    refine WL_val rfl rfl rfl (R_assign rfl rfl) ?_
    refine WL_nil ?_
    refine WQ_code ?_
    refine WC_ret ?_
    refine WQ_ret rfl rfl (.cons (.tmp rfl) .nil) rfl (by
        exact ⟨m, rfl, by rw [put_no hm], rfl, by rw [put_no hm]; exact h⟩) (pqZ)
  · have hm : s.inE c 2 now = 0 := Decidable.byContradiction c1
    obtain ⟨k, x, rfl, hk, hx, hst, hle, hne⟩ := inE_zero hm
    refine WC_skip ?_
    refine WQ_code ?_
    refine WC_seq ?_
    refine WC_region ?_
    refine WL_val rfl rfl rfl (R_move rfl rfl) ?_
    refine WL_val rfl rfl rfl (R_move rfl rfl) ?_
    refine WL_val rfl rfl rfl (R_nilCheck rfl rfl) ?_
    refine WL_val rfl rfl rfl (R_fieldAddr rfl fa71_3 rfl) ?_
    refine WL_do0 rfl rfl (D_store (vs := [_]) rfl Try.sizeOf28 rfl rfl rfl rfl rfl (plZ) (by exact pc_nowr m s)) ?_
    rintro _ _ rfl
    rw [pc_now]
    have h0 := h.at_ (now := now) hle (by omega)
    refine WL_nil ?_
    refine WQ_code ?_
    refine WC_seq ?_
    refine WC_block ?_
    refine WC_seq ?_
    refine WC_region ?_
    refine WL_val rfl rfl rfl (R_move rfl rfl) ?_
    refine WL_val rfl rfl rfl (R_move rfl rfl) ?_
    refine WL_val rfl rfl rfl (R_move rfl rfl) ?_
    refine WL_val rfl rfl rfl (R_nilCheck rfl rfl) ?_
    refine WL_val rfl rfl rfl (R_fieldAddr rfl fa71_5 rfl) ?_
    refine WL_val rfl rfl rfl (R_load (v := ptrQ m.q) rfl sc68 rfl (mmZ) (pc_t h0.cl rfl 0)) ?_
    refine WL_do rfl rfl rfl (D_call (qlen_ok m.q m.qm (fq s.Q) s.n m.qes m.qmc h.qk h.qM) rfl rfl rfl rfl (pqZ)) ?_
    rintro _ _ ⟨_, ⟨rfl, rfl⟩, rfl⟩
    refine WL_val rfl rfl rfl (R_gtr rfl rfl rfl) ?_
    refine WL_val rfl rfl rfl (R_pickT rfl rfl rfl) ?_
    refine WL_val rfl rfl rfl (R_assign rfl rfl) ?_
    refine WL_nil ?_
    refine WQ_code ?_
    refine WC_dec rfl (fun c2 => ?_) (fun c2 => ?_)
    · obtain ⟨xq, rq, hQ⟩ : ∃ x r, s.Q = x :: r := by cases hq9 : s.Q with | nil => exact absurd c2 (by show ¬ ((fq s.Q).length : Int) > 0; rw [hq9]; simp) | cons x r => exact ⟨x, r, rfl⟩
      refine WC_seq ?_
      refine WC_region ?_
      refine WL_val rfl rfl rfl (R_move rfl rfl) ?_
      refine WL_do rfl rfl rfl (D_call (pfirst_ok h0 (x := xq) (r := rq) hQ) rfl rfl rfl rfl (pqZ)) ?_
      rintro _ _ ⟨_, ⟨m1, rfl, rfl, hp1, h1⟩, rfl⟩
      rw [← hp1]
      refine WL_val rfl rfl rfl (R_move rfl rfl) ?_
      refine WL_val rfl rfl rfl (R_extract rfl rfl rfl) ?_
      refine WL_val rfl rfl rfl (R_extract rfl rfl rfl) ?_
      refine WL_val rfl rfl rfl (R_assign rfl rfl) ?_
      refine WL_val rfl rfl rfl (R_assign rfl rfl) ?_
      refine WL_nil ?_
      refine WQ_code ?_
      refine WC_region ?_
      refine WL_val rfl rfl rfl (R_move rfl rfl) ?_
      refine WL_val rfl rfl rfl (R_move rfl rfl) ?_
      refine WL_val rfl rfl rfl (R_move rfl rfl) ?_
      refine WL_do rfl rfl rfl (D_call (ptell_ok h1 1 xq.who (k : Int) (by show s.E.length ≤ _; omega)) rfl rfl rfl rfl (pqZ)) ?_
      rintro _ _ ⟨_, ⟨ob, ek, ec, epre, etl, rfl, rfl, hoS⟩, rfl⟩
      refine WL_nil ?_
      refine WQ_code ?_
      refine WC_seq ?_
      refine WC_region ?_
      refine WL_val rfl rfl rfl (R_assign rfl rfl) ?_
      refine WL_nil ?_
      refine WQ_code ?_
      refine WC_ret ?_
      refine WQ_ret rfl rfl (.cons (.tmp rfl) .nil) rfl (by
          exact ⟨{ m1 with eb := ob, ek := ek, ec := ec, epre := epre, etl := etl }, congrArg (Value.int .i64) hm.symm, by rw [put_use hm hQ], rfl, by rw [put_use hm hQ]; exact h1.tell hoS⟩) (pqZ)
    · have hQ : s.Q = [] := by cases hq9 : s.Q with | nil => rfl | cons x r => exact absurd (by show ((fq s.Q).length : Int) > 0; rw [hq9]; simp <;> omega) c2
      refine WC_seq ?_
      refine WC_draw ([poP m (s.at_ now)]) [(0, true), (1, true), (2, true), (5, true), (6, true), (7, true), (8, true), (3, false), (4, true), (9, true), (10, true), (11, true)] followsMixed rfl rfl (by kernel_rfl) pqZ ?_
      refine WM_val rfl rfl rfl rfl (R_move rfl rfl) ?_
      refine WM_val rfl rfl rfl rfl (R_move rfl rfl) ?_
      refine WM_val rfl rfl rfl rfl (R_move rfl rfl) ?_
      refine WM_val rfl rfl rfl rfl (R_move rfl rfl) ?_
      refine WM_val rfl rfl rfl rfl (R_nilCheck rfl rfl) ?_
      refine WM_val rfl rfl rfl rfl (R_fieldAddr rfl fa71_1 rfl) ?_
      refine WM_val rfl rfl rfl rfl (R_load rfl sc3 rfl (mmZ) rfl) ?_
      refine WM_do rfl rfl rfl rfl (D_call (pall_ok h0 3) rfl rfl rfl rfl (pqZ)) ?_
      rintro _ _ ⟨_, ⟨o9, c9, tl9, rfl, own9, rfl⟩, rfl⟩
      refine ⟨⟨_, pqZ⟩, ?_⟩
      refine WM_val rfl rfl rfl rfl (R_len rfl Try.underlying78 rfl) ?_
      refine WM_val rfl rfl rfl rfl (R_lss rfl rfl rfl) ?_
      refine WM_val rfl rfl rfl rfl (R_pickT rfl rfl rfl) ?_
      refine WM_val rfl rfl rfl rfl (R_assign rfl rfl) ?_
      refine WM_nil ?_
      refine WQ_code ?_
      refine WC_dec rfl (fun c3 => ?_) (fun c3 => ?_)
      · have hl : (allI 3 s.C).length < s.most := by have h9 : ((allI 3 s.C).length : Int) < (s.most : Int) := c3; omega
        refine WC_region ?_
        refine WL_val rfl rfl rfl (R_move rfl rfl) ?_
        refine WL_val rfl rfl rfl (R_move rfl rfl) ?_
        refine WL_val rfl rfl rfl (R_move rfl rfl) ?_
        refine WL_val rfl rfl rfl (R_build rfl zv66 pl66 rfl rfl) ?_
        refine WL_val rfl rfl rfl (R_nilCheck rfl rfl) ?_
        refine WL_val rfl rfl rfl (R_fieldAddr rfl fa71_4 rfl) ?_
        refine WL_val rfl rfl rfl (R_indexAddrAN rfl Try.underlying67 Try.sizeOf66 rfl rfl (by omega)) ?_
        refine WL_do0 rfl rfl (D_store (vs := [_, _, _]) rfl Try.sizeOf66 rfl rfl rfl rfl rfl (plZ) (by exact pc_room h.cl rfl (by omega))) ?_
        rintro _ _ rfl
        rw [show putAt _ _ [.int .i64 (3), .int .i64 (0), .int .u64 ((now : Nat) : Int)] = _ from pc_put (A := pcH _) rfl (y := ⟨3, 0, now⟩) (show (s.at_ now).C[k]? = some x from hx) rfl]
        refine WL_nil ?_
        refine WQ_code ?_
        refine WC_seq ?_
        refine WC_region ?_
        refine WL_val rfl rfl rfl (R_assign rfl rfl) ?_
        refine WL_nil ?_
        refine WQ_code ?_
        refine WC_ret ?_
        refine WQ_ret rfl rfl (.cons (.tmp rfl) .nil) rfl (by
            exact ⟨m, congrArg (Value.int .i64) hm.symm, by rw [put_idle hm hQ hl], rfl, by rw [put_idle hm hQ hl]; exact h0.set (Nat.le_refl _) (⟨by decide, by decide⟩ : (0 : Int) ≤ 3 ∧ (3 : Int) ≤ 3)⟩) (pqZ)
      · have hl : ¬ (allI 3 s.C).length < s.most := by have h9 : ¬ ((allI 3 s.C).length : Int) < (s.most : Int) := c3; omega
        refine WC_seq ?_
        refine WC_region ?_
        refine WL_val rfl rfl rfl (R_move rfl rfl) ?_
        refine WL_val rfl rfl rfl (R_move rfl rfl) ?_
        refine WL_do rfl rfl rfl (D_call (ptell_ok h0 5 (-1) (k : Int) (by show s.E.length ≤ _; omega)) rfl rfl rfl rfl (pqZ)) ?_
        rintro _ _ ⟨_, ⟨ob, ek, ec, epre, etl, rfl, rfl, hoS⟩, rfl⟩
        refine WL_nil ?_
        refine WQ_code ?_
        refine WC_region ?_
        refine WL_val rfl rfl rfl (R_move rfl rfl) ?_
        refine WL_val rfl rfl rfl (R_move rfl rfl) ?_
        refine WL_do rfl rfl rfl (D_call (plose_ok (h0.tell hoS) k (by omega) (by show (s.E ++ [_]).length ≤ _; rw [List.length_append]; simp; omega)) rfl rfl rfl rfl (pqZ)) ?_
        rintro _ _ ⟨_, ⟨m2, rfl, rfl, hp2, h2⟩, rfl⟩
        refine WL_nil ?_
        refine WQ_code ?_
        refine WC_seq ?_
        refine WC_region ?_
        refine WL_val rfl rfl rfl (R_assign rfl rfl) ?_
        refine WL_nil ?_
        refine WQ_code ?_
        refine WC_ret ?_
        refine WQ_ret rfl rfl (.cons (.tmp rfl) .nil) rfl (by
            exact ⟨m2, congrArg (Value.int .i64) hm.symm, by rw [put_over hm hQ hl], hp2, by rw [put_over hm hQ hl]; exact h2⟩) (pqZ)
theorem pput_false {m : PM} {s : PS} (h : PIs m s) (hE : s.E.length ≤ 10000) (c : Int) (now : Nat) (hb : now ≤ 18446744073709551615) : Spec Try.prog 12 [ptrP m.p, .int .i64 c, .bool false, .int .u64 (now : Int)] (poH m s) (fun r H' => ∃ m', r = .int .i64 (s.inE c 2 now) ∧ H' = poH m' (s.put c false now) ∧ m'.p = m.p ∧ PIs m' (s.put c false now)) := by
  refine Spec.of (E := [(0, ptrP m.p), (1, .int .i64 c), (2, .bool false), (3, .int .u64 (now : Int))]) Try.func12 rfl (by kernel_rfl) Try.ntmps12 rfl rfl (fun w => ?_)
  refine WC_seq ?_
  refine WC_region ?_
  refine WL_val rfl rfl rfl (R_assign rfl rfl) ?_
  refine WL_nil ?_
  refine WQ_code ?_
  refine WC_seq ?_
  refine WC_seq ?_
  refine WC_region ?_
  refine WL_val rfl rfl rfl (R_move rfl rfl) ?_
  refine WL_val rfl rfl rfl (R_move rfl rfl) ?_
  refine WL_val rfl rfl rfl (R_move rfl rfl) ?_
  refine WL_do rfl rfl rfl (D_call (pin_ok h hE c 2 now) rfl rfl rfl rfl (pqZ)) ?_
  rintro _ _ ⟨_, ⟨rfl, rfl⟩, rfl⟩
  refine WL_val rfl rfl rfl (R_assign rfl rfl) ?_
  refine WL_nil ?_
  refine WQ_code ?_
  refine WC_seq ?_
  refine WC_region ?_
  refine WL_val rfl rfl rfl (R_move rfl rfl) ?_
  refine WL_val rfl rfl rfl (R_neq rfl rfl rfl) ?_
  refine WL_nil ?_
  refine WQ_code ?_
  refine WC_dec rfl (fun c1 => ?_) (fun c1 => ?_)
  · have hm := c1
    refine WC_seq ?_
    refine WC_region ?_
    refine WL_val rfl rfl rfl (R_move rfl rfl) ?_
    refine WL_val rfl rfl rfl (R_assign rfl rfl) ?_
    refine WL_nil ?_
    refine WQ_code ?_
    refine WC_ret ?_
    refine WQ_ret rfl rfl (.cons (.tmp rfl) .nil) rfl (by
        exact ⟨m, rfl, by rw [put_no hm], rfl, by rw [put_no hm]; exact h⟩) (pqZ)
  · have hm : s.inE c 2 now = 0 := Decidable.byContradiction c1
    obtain ⟨k, x, rfl, hk, hx, hst, hle, hne⟩ := inE_zero hm
    refine WC_skip ?_
    refine WQ_code ?_
    refine WC_seq ?_
    refine WC_region ?_
    refine WL_val rfl rfl rfl (R_move rfl rfl) ?_
    refine WL_val rfl rfl rfl (R_move rfl rfl) ?_
    refine WL_val rfl rfl rfl (R_nilCheck rfl rfl) ?_
    refine WL_val rfl rfl rfl (R_fieldAddr rfl fa71_3 rfl) ?_
    refine WL_do0 rfl rfl (D_store (vs := [_]) rfl Try.sizeOf28 rfl rfl rfl rfl rfl (plZ) (by exact pc_nowr m s)) ?_
    rintro _ _ rfl
    rw [pc_now]
    have h0 := h.at_ (now := now) hle (by omega)
    refine WL_nil ?_
    refine WQ_code ?_
    refine WC_seq ?_
    refine WC_block ?_
    refine WC_seq ?_
    refine WC_region ?_
    refine WL_val rfl rfl rfl (R_move rfl rfl) ?_
    refine WL_val rfl rfl rfl (R_move rfl rfl) ?_
    refine WL_skip rfl rfl rfl ?_
    refine WL_skip rfl rfl rfl ?_
    refine WL_skip rfl rfl rfl ?_
    refine WL_skip rfl rfl rfl ?_
    refine WL_skip rfl rfl rfl ?_
    refine WL_skip rfl rfl rfl ?_
    refine WL_val rfl rfl rfl (R_pickF rfl rfl rfl) ?_
    refine WL_val rfl rfl rfl (R_assign rfl rfl) ?_
    refine WL_nil ?_
    refine WQ_code ?_
    refine WC_F rfl ?_
    refine WC_seq ?_
    refine WC_draw _ [(0, true), (1, true), (2, true), (5, true), (6, true), (7, true), (8, true), (3, false), (4, true), (9, true), (10, true), (11, true)] followsMixed rfl rfl (by kernel_rfl) .all ?_
    refine WM_val rfl rfl rfl rfl (R_move rfl rfl) ?_
    refine WM_val rfl rfl rfl rfl (R_move rfl rfl) ?_
    refine WM_skip rfl rfl rfl rfl ?_
    refine WM_skip rfl rfl rfl rfl ?_
    refine WM_skip rfl rfl rfl rfl ?_
    refine WM_skip rfl rfl rfl rfl ?_
    refine WM_skip rfl rfl rfl rfl ?_
    refine WM_skipF rfl rfl rfl rfl (pqZ) ?_
    refine WM_skip rfl rfl rfl rfl ?_
    refine WM_skip rfl rfl rfl rfl ?_
    refine WM_val rfl rfl rfl rfl (R_pickF rfl rfl rfl) ?_
    refine WM_val rfl rfl rfl rfl (R_assign rfl rfl) ?_
    refine WM_nil ?_
    refine WQ_code ?_
    refine WC_F rfl ?_
    refine WC_seq ?_
    refine WC_region ?_
    refine WL_val rfl rfl rfl (R_move rfl rfl) ?_
    refine WL_val rfl rfl rfl (R_move rfl rfl) ?_
    refine WL_do rfl rfl rfl (D_call (ptell_ok h0 5 (-1) (k : Int) (by show s.E.length ≤ _; omega)) rfl rfl rfl rfl (pqZ)) ?_
    rintro _ _ ⟨_, ⟨ob, ek, ec, epre, etl, rfl, rfl, hoS⟩, rfl⟩
    refine WL_nil ?_
    refine WQ_code ?_
    refine WC_region ?_
    refine WL_val rfl rfl rfl (R_move rfl rfl) ?_
    refine WL_val rfl rfl rfl (R_move rfl rfl) ?_
    refine WL_do rfl rfl rfl (D_call (plose_ok (h0.tell hoS) k (by omega) (by show (s.E ++ [_]).length ≤ _; rw [List.length_append]; simp; omega)) rfl rfl rfl rfl (pqZ)) ?_
    rintro _ _ ⟨_, ⟨m2, rfl, rfl, hp2, h2⟩, rfl⟩
    refine WL_nil ?_
    refine WQ_code ?_
    refine WC_seq ?_
    refine WC_region ?_
    refine WL_val rfl rfl rfl (R_assign rfl rfl) ?_
    refine WL_nil ?_
    refine WQ_code ?_
    refine WC_ret ?_
    refine WQ_ret rfl rfl (.cons (.tmp rfl) .nil) rfl (by
        exact ⟨m2, congrArg (Value.int .i64) hm.symm, by rw [put_bad hm], hp2, by rw [put_bad hm]; exact h2⟩) (pqZ)
theorem pput_ok {m : PM} {s : PS} (h : PIs m s) (hE : s.E.length ≤ 10000) (c : Int) (good : Bool) (now : Nat) (hb : now ≤ 18446744073709551615) : Spec Try.prog 12 [ptrP m.p, .int .i64 c, .bool good, .int .u64 (now : Int)] (poH m s) (fun r H' => ∃ m', r = .int .i64 (s.inE c 2 now) ∧ H' = poH m' (s.put c good now) ∧ m'.p = m.p ∧ PIs m' (s.put c good now)) := by
  cases good with
  | true => exact pput_true h hE c now hb
  | false => exact pput_false h hE c now hb
theorem pleave_ok {m : PM} {s : PS} (h : PIs m s) {A B : List Qp} {x : Qp} (hQ : s.Q = A ++ x :: B) : Spec Try.prog 45 [ptrP m.p, .int .i64 x.who] (poH m s) (fun r H' => ∃ m', r = .tuple #[] ∧ H' = poH m' (s.leave x.who) ∧ m'.p = m.p ∧ PIs m' (s.leave x.who)) := by
  have hqk := h.qk
  have hqM := h.qM
  have hnd := h.nd
  have hpr := qk_sub h.qk (show (A ++ B).Sublist s.Q by rw [hQ]; exact List.Sublist.append_left (List.sublist_cons_self x B) A)
  have hin : (x.who, (x.t, x.dl)) ∈ wq s.Q := by rw [hQ]; exact List.mem_map_of_mem (List.mem_append_right _ (List.mem_cons_self ..))
  have hlv := leave_eq hQ hnd
  have hdel : delL (wq s.Q) x.who = wq (A ++ B) := by rw [wq_del]; exact congrArg wq (congrArg PS.Q hlv)
  have hfq : fq s.Q = fq A ++ (x.t, x.who) :: fq B := by rw [hQ]; simp [fq]
  have hfq2 : fq (A ++ B) = fq A ++ fq B := by simp [fq]
  rw [hlv]
  rw [hfq] at hqk hqM
  unfold poH
  rw [hfq]
  refine Spec.of (E := [(0, ptrP m.p), (1, .int .i64 x.who)]) Try.func45 rfl (by kernel_rfl) Try.ntmps45 rfl rfl (fun w => ?_)
  refine WC_seq ?_
  refine WC_draw ([poP m s, poW m]) [(0, true), (1, true), (2, true), (3, true), (4, true), (5, true), (6, true), (7, true), (8, true), (9, true), (10, true), (11, false)] followsMixed rfl rfl (by kernel_rfl) pqZ ?_
  refine WM_val rfl rfl rfl rfl (R_move rfl rfl) ?_
  refine WM_val rfl rfl rfl rfl (R_nilCheck rfl rfl) ?_
  refine WM_val rfl rfl rfl rfl (R_fieldAddr rfl fa71_5 rfl) ?_
  refine WM_val rfl rfl rfl rfl (R_load (v := ptrQ m.q) rfl sc68 rfl (mmZ) (pc_t h.cl rfl 0)) ?_
  refine WM_val rfl rfl rfl rfl (R_move rfl rfl) ?_
  refine WM_val rfl rfl rfl rfl (R_nilCheck rfl rfl) ?_
  refine WM_val rfl rfl rfl rfl (R_fieldAddr rfl fa71_6 rfl) ?_
  refine WM_val rfl rfl rfl rfl (R_load (v := .map (some m.wm)) rfl sc69 rfl (mmZ) (pc_t h.cl rfl 1)) ?_
  refine WM_val rfl rfl rfl rfl (R_move rfl rfl) ?_
  refine WM_val rfl rfl rfl rfl (R_lookK (k := x.who) (a := (x.t, x.dl)) rfl Try.underlying69 int_key rfl rfl mmZ h.wM hin) ?_
  refine WM_val rfl rfl rfl rfl (R_field rfl Try.underlying86 rfl rfl sc27 rfl rfl) ?_
  refine WM_do rfl rfl rfl rfl (D_call (qrem_ok m.q m.qm (fq A) (fq B) x.t x.who s.n m.qes m.qmc hqk hqM) rfl rfl rfl rfl (pqZ)) ?_
  rintro _ _ ⟨_, ⟨es1, mc1, rfl, rfl, hM1⟩, rfl⟩
  refine ⟨⟨_, pqZ⟩, ?_⟩
  rw [← hfq2] at hM1 ⊢
  refine WM_nil ?_
  refine WQ_code ?_
  refine WC_region ?_
  refine WL_val rfl rfl rfl (R_move rfl rfl) ?_
  refine WL_val rfl rfl rfl (R_nilCheck rfl rfl) ?_
  refine WL_val rfl rfl rfl (R_fieldAddr rfl fa71_6 rfl) ?_
  refine WL_val rfl rfl rfl (R_load (v := .map (some m.wm)) rfl sc69 rfl (mmZ) (pc_t h.cl rfl 1)) ?_
  refine WL_val rfl rfl rfl (R_move rfl rfl) ?_
  refine WL_do0 rfl rfl (D_deleteK (k := x.who) (a := (x.t, x.dl)) rfl Try.underlying69 int_key rfl rfl plZ h.wM hin) ?_
  rintro _ _ ⟨es9, hM9, rfl⟩
  rw [hdel] at hM9
  refine WL_nil ?_
  refine WQ_ret rfl rfl .nil rfl (by
      exact ⟨{ m with qes := es1, qmc := mc1, wes := es9, wmc := m.wmc }, rfl, rfl, rfl, h.q hpr hM1 hM9 (fun y hy => by rw [hQ]; rcases List.mem_append.1 hy with hy | hy; exact List.mem_append_left _ hy; exact List.mem_append_right _ (List.mem_cons_of_mem _ hy))⟩) (pqZ)

end Go.Proofs.Yteofigbgdbpjgaa
