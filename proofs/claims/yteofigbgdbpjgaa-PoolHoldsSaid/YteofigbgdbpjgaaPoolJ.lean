/-
  Chapter 46 (pool), part PoolJ: contracts of functions that the laws call, each for the heap it names.
-/
import Derived.Test.YteofigbgdbpjgaaRows
import Derived.Test.YteofigbgdbpjgaaZB
import Derived.Test.YteofigbgdbpjgaaSLMapJ
import Derived.Test.YteofigbgdbpjgaaSLScope
import Derived.Test.YteofigbgdbpjgaaTab
import Derived.Test.YteofigbgdbpjgaaPoolI
set_option linter.unusedVariables false
set_option maxRecDepth 20000
set_option maxHeartbeats 1000000
namespace Go.Proofs.Yteofigbgdbpjgaa


theorem own_litP (b : Nat) (l : List Int) (h : l.length ≤ 1000000) : Own (some b) l.length l.length 1 (ivs l) [] :=
  ⟨by rw [ivs_len, Nat.mul_one], by rw [ivs_len]; simp, Nat.le_refl _, by omega, fun e => by cases e⟩
theorem pget1_ok (x : Cn) (b2 : Nat) (who : Int) : Spec Try.prog 35 [.agg (encC x).toArray, .pointer (some ⟨b2, 0, none⟩)] [⟨some b2, cl [.int .i64 who] 3⟩] (fun r H' => r = .bool (decide (x.st = 1 ∧ x.who = who)) ∧ H' = [⟨some b2, cl [.int .i64 who] 3⟩]) := by
  refine Spec.of (E := [(0, .agg (encC x).toArray), (1, .pointer (some ⟨b2, 0, none⟩))]) Try.func35 rfl (by kernel_rfl) Try.ntmps35 rfl rfl (fun w => ?_)
  refine WC_seq ?_
  refine WC_region ?_
  refine WL_do rfl rfl rfl (D_box (cs := [_, _, _]) rfl rfl rfl) ?_
  rintro _ _ ⟨b1, rfl, rfl⟩
  refine WL_val rfl rfl rfl (R_assign rfl rfl) ?_
  refine WL_nil ?_
  refine WQ_code ?_
  refine WC_seq ?_
  refine WC_region ?_
  refine WL_val rfl rfl rfl (R_fieldAddr rfl fa66_0 rfl) ?_
  refine WL_val rfl rfl rfl (R_load rfl sc64 rfl (mmZ) rfl) ?_
  refine WL_val rfl rfl rfl (R_eql rfl rfl rfl) ?_
  refine WL_val rfl rfl rfl (R_move rfl rfl) ?_
  refine WL_splitD (s := 7) rfl (fun c1 => ?_) (fun c1 => ?_)
  · have hg := c1
    refine WL_val rfl rfl rfl (R_fieldAddr rfl fa66_1 rfl) ?_
    refine WL_val rfl rfl rfl (R_load rfl sc3 rfl (mmZ) rfl) ?_
    refine WL_val rfl rfl rfl (R_load rfl sc3 rfl (mmZ) rfl) ?_
    refine WL_val rfl rfl rfl (R_eql rfl rfl rfl) ?_
    refine WL_val rfl rfl rfl (R_pickT rfl rfl rfl) ?_
    refine WL_val rfl rfl rfl (R_assign rfl rfl) ?_
    refine WL_nil ?_
    refine WQ_code ?_
    refine WC_ret ?_
    refine WQ_ret rfl rfl (.cons (.tmp rfl) .nil) rfl (by
        first | exact ⟨congrArg Value.bool (decide_eq_decide.2 (by omega)), rfl⟩ | exact ⟨congrArg Value.bool (decide_eq_false (by omega)).symm, rfl⟩) (pqZ)
  · have hg := c1
    refine WL_skip rfl rfl rfl ?_
    refine WL_skip rfl rfl rfl ?_
    refine WL_skip rfl rfl rfl ?_
    refine WL_skip rfl rfl rfl ?_
    refine WL_val rfl rfl rfl (R_pickF rfl rfl rfl) ?_
    refine WL_val rfl rfl rfl (R_assign rfl rfl) ?_
    refine WL_nil ?_
    refine WQ_code ?_
    refine WC_ret ?_
    refine WQ_ret rfl rfl (.cons (.tmp rfl) .nil) rfl (by
        first | exact ⟨congrArg Value.bool (decide_eq_decide.2 (by omega)), rfl⟩ | exact ⟨congrArg Value.bool (decide_eq_false (by omega)).symm, rfl⟩) (pqZ)
theorem dials_next {C : List Cn} {k : Nat} {x : Cn} {who : Int} (hx : C[k]? = some x) (h : (C.take k).any (fun x => decide (x.st = 1 ∧ x.who = who)) = false) (hp : decide (x.st = 1 ∧ x.who = who) = false) : (C.take (k + 1)).any (fun x => decide (x.st = 1 ∧ x.who = who)) = false := by
  rw [take_next hx, List.any_append, h, Bool.false_or, List.any_cons, List.any_nil, Bool.or_false, hp]
theorem cidx_ok {m : PM} {s : PS} (h : PIs m s) (b2 : Nat) (who : Int) : Spec Try.prog 70 [.slice (some ⟨m.p, 4, none⟩) 64 64, .func (.func 35) #[] #[.pointer (some ⟨b2, 0, none⟩)]] [poP m s, ⟨some b2, cl [.int .i64 who] 3⟩] (fun r H' => ∃ v : Int, r = .int .i64 v ∧ (0 ≤ v ↔ s.dials who = true) ∧ H' = [poP m s, ⟨some b2, cl [.int .i64 who] 3⟩]) := by
  refine Spec.of (E := [(0, .slice (some ⟨m.p, 4, none⟩) 64 64), (1, .func (.func 35) #[] #[.pointer (some ⟨b2, 0, none⟩)])]) Try.func70 rfl (by kernel_rfl) Try.ntmps70 rfl rfl (fun w => ?_)
  refine WC_seq ?_
  refine WC_region ?_
  refine WL_val rfl rfl rfl (R_assign rfl rfl) ?_
  refine WL_nil ?_
  refine WQ_code ?_
  refine WC_seq ?_
  refine WC_seq ?_
  refine WC_region ?_
  refine WL_val rfl rfl rfl (R_move rfl rfl) ?_
  refine WL_val rfl rfl rfl (R_len rfl Try.underlying89 rfl) ?_
  refine WL_val rfl rfl rfl (R_move rfl rfl) ?_
  refine WL_nil ?_
  refine WQ_code ?_
  refine WC_block ?_
  refine WC_loopF (G := Nat) [4, 5, 8, 9, 10, 11, 12, 13, 14, 15, 16, 17, 18] (fun k => k ≤ 64 ∧ (s.C.take k).any (fun x => decide (x.st = 1 ∧ x.who = who)) = false) (fun k => [(8, .int .i64 (k : Int))]) (fun k => []) (fun k => 64 - k) (0) (⟨Nat.zero_le _, rfl⟩) leZ (pqZ) ?_
  rintro k ⟨hk, hz⟩
  refine WC_seq ?_
  refine WC_region ?_
  refine WL_val rfl rfl rfl (R_lss rfl rfl rfl) ?_
  refine WL_nil ?_
  refine WQ_code ?_
  refine WC_seq ?_
  refine WC_dec rfl (fun c1 => ?_) (fun c1 => ?_)
  · refine WC_skip ?_
    refine WQ_code ?_
    refine WC_seq ?_
    refine WC_block ?_
    refine WC_seq ?_
    refine WC_region ?_
    refine WL_val rfl rfl rfl (R_move rfl rfl) ?_
    refine WL_val rfl rfl rfl (R_assign rfl rfl) ?_
    refine WL_nil ?_
    refine WQ_code ?_
    refine WC_seq ?_
    refine WC_region ?_
    obtain ⟨x, hx⟩ := getE (T := s.C) (i := k) (by rw [h.cl]; omega)
    refine WL_val rfl rfl rfl (R_move rfl rfl) ?_
    refine WL_val rfl rfl rfl (R_move rfl rfl) ?_
    refine WL_val rfl rfl rfl (R_move rfl rfl) ?_
    refine WL_val rfl rfl rfl (R_indexAddrN rfl Try.underlying89 Try.sizeOf66 rfl rfl (by omega)) ?_
    refine WL_val rfl rfl rfl (R_loadA (vs := encC x) rfl ag66 rfl mmZ rfl (by have := pc_atC (A := pcH s) (T := pcT m s.E.length) rfl hx; exact this)) ?_
    refine WL_do rfl rfl rfl (D_call (pget1_ok x b2 who) rfl rfl rfl rfl (pqZ)) ?_
    rintro _ _ ⟨_, ⟨rfl, rfl⟩, rfl⟩
    refine WL_nil ?_
    refine WQ_code ?_
    refine WC_if rfl (fun c2 => ?_) (fun c2 => ?_)
    · have hc := c2
      refine WC_seq ?_
      refine WC_region ?_
      refine WL_val rfl rfl rfl (R_move rfl rfl) ?_
      refine WL_val rfl rfl rfl (R_assign rfl rfl) ?_
      refine WL_nil ?_
      refine WQ_code ?_
      refine WC_ret ?_
      refine WQ_ret rfl rfl (.cons (.tmp rfl) .nil) rfl (by
          first | exact ⟨_, rfl, ⟨fun _ => List.any_eq_true.2 ⟨x, List.mem_of_getElem? hx, hc⟩, fun _ => Int.natCast_nonneg _⟩, rfl⟩ | exact ⟨_, rfl, ⟨fun e => absurd e (by decide), fun e => by unfold PS.dials at e; rw [List.take_of_length_le (by rw [h.cl]; omega)] at hz; rw [hz] at e; cases e⟩, rfl⟩) (pqZ)
    · have hc := c2
      refine WC_skip ?_
      refine WQ_code ?_
      refine WC_region ?_
      refine WL_val rfl rfl rfl (R_add rfl rfl rfl (by omega)) ?_
      refine WL_val rfl rfl rfl (R_move rfl rfl) ?_
      refine WL_nil ?_
      refine WQ_nextF (k + 1) (⟨by omega, dials_next hx hz hc⟩) (by omega) leZ (psZ) rfl (pqZ)
  · have hkl : k = 64 := by omega
    refine WC_exit ?_
    refine WQ_code ?_
    refine WC_seq ?_
    refine WC_region ?_
    refine WL_val rfl rfl rfl (R_assign rfl rfl) ?_
    refine WL_nil ?_
    refine WQ_code ?_
    refine WC_ret ?_
    refine WQ_ret rfl rfl (.cons (.tmp rfl) .nil) rfl (by
        first | exact ⟨_, rfl, ⟨fun _ => List.any_eq_true.2 ⟨x, List.mem_of_getElem? hx, hc⟩, fun _ => Int.natCast_nonneg _⟩, rfl⟩ | exact ⟨_, rfl, ⟨fun e => absurd e (by decide), fun e => by unfold PS.dials at e; rw [List.take_of_length_le (by rw [h.cl]; omega)] at hz; rw [hz] at e; cases e⟩, rfl⟩) (pqZ)
theorem ccon_ok {m : PM} {s : PS} (h : PIs m s) (b2 : Nat) (who : Int) : Spec Try.prog 34 [.slice (some ⟨m.p, 4, none⟩) 64 64, .func (.func 35) #[] #[.pointer (some ⟨b2, 0, none⟩)]] [poP m s, ⟨some b2, cl [.int .i64 who] 3⟩] (fun r H' => r = .bool (s.dials who) ∧ H' = [poP m s, ⟨some b2, cl [.int .i64 who] 3⟩]) := by
  refine Spec.of (E := [(0, .slice (some ⟨m.p, 4, none⟩) 64 64), (1, .func (.func 35) #[] #[.pointer (some ⟨b2, 0, none⟩)])]) Try.func34 rfl (by kernel_rfl) Try.ntmps34 rfl rfl (fun w => ?_)
  refine WC_seq ?_
  refine WC_region ?_
  refine WL_val rfl rfl rfl (R_assign rfl rfl) ?_
  refine WL_nil ?_
  refine WQ_code ?_
  refine WC_seq ?_
  refine WC_region ?_
  refine WL_val rfl rfl rfl (R_move rfl rfl) ?_
  refine WL_val rfl rfl rfl (R_move rfl rfl) ?_
  refine WL_do rfl rfl rfl (D_call (cidx_ok h b2 who) rfl rfl rfl rfl (pqZ)) ?_
  rintro _ _ ⟨_, ⟨v, rfl, hv, rfl⟩, rfl⟩
  refine WL_val rfl rfl rfl (R_geq rfl rfl rfl) ?_
  refine WL_val rfl rfl rfl (R_assign rfl rfl) ?_
  refine WL_nil ?_
  refine WQ_code ?_
  refine WC_ret ?_
  refine WQ_ret rfl rfl (.cons (.tmp rfl) .nil) rfl (by
      exact ⟨congrArg Value.bool (by cases hd : s.dials who with | true => exact decide_eq_true (hv.2 hd) | false => exact decide_eq_false (fun e => by have := hv.1 e; rw [hd] at this; cases this)), rfl⟩) (pqZ)
theorem since_at {C : List Cn} {k : Nat} {x : Cn} (h : C[k]? = some x) : sinceI C (k : Int) = x.since := by unfold sinceI; rw [Int.toNat_natCast, h]
theorem pget2_ok {m : PM} {s : PS} (h : PIs m s) (b1 : Nat) (a b : Int) (ha : a ∈ allI 3 s.C) (hb : b ∈ allI 3 s.C) : Spec Try.prog 38 [.int .i64 a, .int .i64 b, .pointer (some ⟨b1, 0, none⟩)] [⟨some b1, cl [ptrP m.p] 23⟩, poP m s] (fun r H' => r = .int .i64 (idleC s.C a b) ∧ [⟨some b1, cl [ptrP m.p] 23⟩, poP m s] = H') := by
  obtain ⟨i, x, rfl, hx, _⟩ := allI_mem ha
  obtain ⟨j, y, rfl, hy, _⟩ := allI_mem hb
  have hi := (List.getElem?_eq_some_iff.1 hx).1
  have hj := (List.getElem?_eq_some_iff.1 hy).1
  rw [h.cl] at hi hj
  refine Spec.of (E := [(0, .int .i64 (i : Int)), (1, .int .i64 (j : Int)), (2, .pointer (some ⟨b1, 0, none⟩))]) Try.func38 rfl (by kernel_rfl) Try.ntmps38 rfl rfl (fun w => ?_)
  refine WC_seq ?_
  refine WC_region ?_
  refine WL_val rfl rfl rfl (R_assign rfl rfl) ?_
  refine WL_nil ?_
  refine WQ_code ?_
  refine WC_seq ?_
  refine WC_draw _ [(0, true), (1, true), (2, true), (3, true), (4, true), (5, true), (6, true), (7, true), (8, true), (9, true), (10, true), (11, true), (12, true), (13, true), (14, true), (15, true), (16, true), (17, true), (18, false), (19, false), (20, true)] followsMixed rfl rfl (by kernel_rfl) .all ?_
  refine WM_val rfl rfl rfl rfl (R_load rfl sc23 rfl (mmZ) rfl) ?_
  refine WM_val rfl rfl rfl rfl (R_move rfl rfl) ?_
  refine WM_val rfl rfl rfl rfl (R_nilCheck rfl rfl) ?_
  refine WM_val rfl rfl rfl rfl (R_fieldAddr rfl fa71_4 rfl) ?_
  refine WM_val rfl rfl rfl rfl (R_indexAddrAN rfl Try.underlying67 Try.sizeOf66 rfl rfl (by omega)) ?_
  refine WM_val rfl rfl rfl rfl (R_fieldAddr rfl fa66_2 rfl) ?_
  refine WM_val rfl rfl rfl rfl (R_load (v := .int .u64 (x.since : Int)) rfl sc28 rfl (mmZ) (pc_get (A := pcH s) rfl hx (j := 2) (by omega))) ?_
  refine WM_val rfl rfl rfl rfl (R_load rfl sc23 rfl (mmZ) rfl) ?_
  refine WM_val rfl rfl rfl rfl (R_move rfl rfl) ?_
  refine WM_val rfl rfl rfl rfl (R_nilCheck rfl rfl) ?_
  refine WM_val rfl rfl rfl rfl (R_fieldAddr rfl fa71_4 rfl) ?_
  refine WM_val rfl rfl rfl rfl (R_indexAddrAN rfl Try.underlying67 Try.sizeOf66 rfl rfl (by omega)) ?_
  refine WM_val rfl rfl rfl rfl (R_fieldAddr rfl fa66_2 rfl) ?_
  refine WM_val rfl rfl rfl rfl (R_load (v := .int .u64 (y.since : Int)) rfl sc28 rfl (mmZ) (pc_get (A := pcH s) rfl hy (j := 2) (by omega))) ?_
  refine WM_call rfl (Spec.quiet (cmpt_ok _ _)) rfl rfl rfl rfl rfl rfl rfl (pqZ) ?_
  refine WM_val rfl rfl rfl rfl (R_move rfl rfl) ?_
  refine WM_val rfl rfl rfl rfl (R_move rfl rfl) ?_
  refine WM_call rfl (Spec.quiet (cmpi_ok _ _)) rfl rfl rfl rfl rfl rfl rfl (pqZ) ?_
  refine WM_do rfl rfl rfl rfl (D_buildSlice rfl si78 rfl rfl rfl) ?_
  rintro _ _ ⟨b1, rfl, rfl⟩
  refine ⟨⟨_, pqZ⟩, ?_⟩
  refine WM_do rfl rfl rfl rfl (D_call (cor_ok [cmpI (x.since : Int) (y.since : Int), cmpI (i : Int) (j : Int)] (Nat.le_of_ble_eq_true rfl) _ _ [] (own_litP _ _ (Nat.le_of_ble_eq_true rfl))) rfl rfl rfl rfl (pqZ)) ?_
  rintro _ _ ⟨_, ⟨rfl, rfl⟩, rfl⟩
  refine ⟨⟨_, pqZ⟩, ?_⟩
  refine WM_val rfl rfl rfl rfl (R_assign rfl rfl) ?_
  refine WM_nil ?_
  refine WQ_code ?_
  refine WC_ret ?_
  refine WQ_ret rfl rfl (.cons (.tmp rfl) .nil) rfl (by
      exact ⟨congrArg (Value.int .i64) (show orL [_, _] = idleC s.C _ _ by unfold idleC lexI; rw [since_at hx, since_at hy]), rfl⟩) (pqZ)

end Go.Proofs.Yteofigbgdbpjgaa
