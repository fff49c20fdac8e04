/-
  Chapter 46 (pool), part PoolA: contracts of functions that the laws call, each for the heap it names.
-/
import Derived.Test.YteofigbgdbpjgaaRows
import Derived.Test.YteofigbgdbpjgaaZB
import Derived.Test.YteofigbgdbpjgaaSLMapJ
import Derived.Test.YteofigbgdbpjgaaSLScope
import Derived.Test.YteofigbgdbpjgaaTab
import Derived.Test.YteofigbgdbpjgaaPoolM
set_option linter.unusedVariables false
set_option maxRecDepth 20000
set_option maxHeartbeats 1000000
namespace Go.Proofs.Yteofigbgdbpjgaa


theorem pnone_ok {m : PM} {s : PS} (h : PIs m s) : Spec Try.prog 28 [ptrP m.p] [poP m s] (fun r H' => r = .bool false ∧ H' = [poP m s]) := by
  refine Spec.of (E := [(0, ptrP m.p)]) Try.func28 rfl (by kernel_rfl) Try.ntmps28 rfl rfl (fun w => ?_)
  refine WC_seq ?_
  refine WC_region ?_
  refine WL_val rfl rfl rfl (R_assign rfl rfl) ?_
  refine WL_nil ?_
  refine WQ_code ?_
  refine WC_seq ?_
  refine WC_region ?_
  refine WL_val rfl rfl rfl (R_move rfl rfl) ?_
  refine WL_val rfl rfl rfl (R_ptrEqNil rfl Try.underlying23 rfl) ?_
  refine WL_val rfl rfl rfl (R_move rfl rfl) ?_
  refine WL_val rfl rfl rfl (R_move rfl rfl) ?_
  refine WL_val rfl rfl rfl (R_nilCheck rfl rfl) ?_
  refine WL_val rfl rfl rfl (R_fieldAddr rfl fa71_6 rfl) ?_
  refine WL_val rfl rfl rfl (R_load (v := .map (some m.wm)) rfl sc69 rfl (mmZ) (pc_t h.cl rfl 1)) ?_
  refine WL_val rfl rfl rfl (R_mapEqNil rfl Try.underlying69 rfl) ?_
  refine WL_set (s := 10) (v := .bool false) rfl (by rfl) ?_
  refine WL_val rfl rfl rfl (R_pickF rfl rfl rfl) ?_
  refine WL_val rfl rfl rfl (R_assign rfl rfl) ?_
  refine WL_nil ?_
  refine WQ_code ?_
  refine WC_ret ?_
  refine WQ_ret rfl rfl (.cons (.tmp rfl) .nil) rfl (by
      exact ⟨rfl, rfl⟩) (pqZ)
theorem pnone_nil : Spec Try.prog 28 [.pointer none] [] (fun r H' => r = .bool true ∧ H' = []) := by
  refine Spec.of (E := [(0, .pointer none)]) Try.func28 rfl (by kernel_rfl) Try.ntmps28 rfl rfl (fun w => ?_)
  refine WC_seq ?_
  refine WC_region ?_
  refine WL_val rfl rfl rfl (R_assign rfl rfl) ?_
  refine WL_nil ?_
  refine WQ_code ?_
  refine WC_seq ?_
  refine WC_region ?_
  refine WL_val rfl rfl rfl (R_move rfl rfl) ?_
  refine WL_val rfl rfl rfl (R_ptrEqNil rfl Try.underlying23 rfl) ?_
  refine WL_val rfl rfl rfl (R_move rfl rfl) ?_
  refine WL_skip rfl rfl rfl ?_
  refine WL_skip rfl rfl rfl ?_
  refine WL_skip rfl rfl rfl ?_
  refine WL_skip rfl rfl rfl ?_
  refine WL_skip rfl rfl rfl ?_
  refine WL_val rfl rfl rfl (R_pickT rfl rfl rfl) ?_
  refine WL_val rfl rfl rfl (R_assign rfl rfl) ?_
  refine WL_nil ?_
  refine WQ_code ?_
  refine WC_ret ?_
  refine WQ_ret rfl rfl (.cons (.tmp rfl) .nil) rfl (by
      exact ⟨rfl, rfl⟩) (pqZ)
theorem pmay_ok {m : PM} {s : PS} (h : PIs m s) (right : Bool) (now : Nat) : Spec Try.prog 33 [ptrP m.p, .bool right, .int .u64 (now : Int)] [poP m s] (fun r H' => r = .int .i64 (s.may right now) ∧ H' = [poP m s]) := by
  refine Spec.of (E := [(0, ptrP m.p), (1, .bool right), (2, .int .u64 (now : Int))]) Try.func33 rfl (by kernel_rfl) Try.ntmps33 rfl rfl (fun w => ?_)
  refine WC_seq ?_
  refine WC_region ?_
  refine WL_val rfl rfl rfl (R_assign rfl rfl) ?_
  refine WL_nil ?_
  refine WQ_code ?_
  refine WC_seq ?_
  refine WC_block ?_
  refine WC_seq ?_
  refine WC_region ?_
  refine WL_val rfl rfl rfl (R_move rfl rfl) ?_
  refine WL_do rfl rfl rfl (D_call (pnone_ok h) rfl rfl rfl rfl (pqZ)) ?_
  rintro _ _ ⟨_, ⟨rfl, rfl⟩, rfl⟩
  refine WL_val rfl rfl rfl (R_assign rfl rfl) ?_
  refine WL_nil ?_
  refine WQ_code ?_
  refine WC_F rfl ?_
  refine WC_seq ?_
  refine WC_region ?_
  refine WL_val rfl rfl rfl (R_move rfl rfl) ?_
  refine WL_val rfl rfl rfl (R_not rfl rfl) ?_
  refine WL_val rfl rfl rfl (R_assign rfl rfl) ?_
  refine WL_nil ?_
  refine WQ_code ?_
  refine WC_if rfl (fun c1 => ?_) (fun c1 => ?_)
  · have hr : right = false := by simpa using c1
    refine WC_seq ?_
    refine WC_region ?_
    refine WL_val rfl rfl rfl (R_assign rfl rfl) ?_
    refine WL_nil ?_
    refine WQ_code ?_
    refine WC_ret ?_
    refine WQ_ret rfl rfl (.cons (.tmp rfl) .nil) rfl (by
        first | exact ⟨congrArg (Value.int .i64) (may_arg hr).symm, rfl⟩ | exact ⟨congrArg (Value.int .i64) (may_time hr (by omega)).symm, rfl⟩ | exact ⟨congrArg (Value.int .i64) (may_fine hr (by omega)).symm, rfl⟩) (pqZ)
  · have hr : right = true := by simpa using c1
    refine WC_seq ?_
    refine WC_region ?_
    refine WL_val rfl rfl rfl (R_move rfl rfl) ?_
    refine WL_val rfl rfl rfl (R_move rfl rfl) ?_
    refine WL_val rfl rfl rfl (R_nilCheck rfl rfl) ?_
    refine WL_val rfl rfl rfl (R_fieldAddr rfl fa71_3 rfl) ?_
    refine WL_val rfl rfl rfl (R_load rfl sc28 rfl (mmZ) rfl) ?_
    refine WL_val rfl rfl rfl (R_lss rfl rfl rfl) ?_
    refine WL_val rfl rfl rfl (R_move rfl rfl) ?_
    refine WL_splitD (s := 20) rfl (fun c2 => ?_) (fun c2 => ?_)
    · have hb := c2
      refine WL_skip rfl rfl rfl ?_
      refine WL_skip rfl rfl rfl ?_
      refine WL_val rfl rfl rfl (R_pickT rfl rfl rfl) ?_
      refine WL_val rfl rfl rfl (R_assign rfl rfl) ?_
      refine WL_nil ?_
      refine WQ_code ?_
      refine WC_T rfl ?_
      refine WC_seq ?_
      refine WC_region ?_
      refine WL_val rfl rfl rfl (R_assign rfl rfl) ?_
      refine WL_nil ?_
      refine WQ_code ?_
      refine WC_ret ?_
      refine WQ_ret rfl rfl (.cons (.tmp rfl) .nil) rfl (by
          first | exact ⟨congrArg (Value.int .i64) (may_arg hr).symm, rfl⟩ | exact ⟨congrArg (Value.int .i64) (may_time hr (by omega)).symm, rfl⟩ | exact ⟨congrArg (Value.int .i64) (may_fine hr (by omega)).symm, rfl⟩) (pqZ)
    · have hb := c2
      refine WL_val rfl rfl rfl (R_move rfl rfl) ?_
      refine WL_val rfl rfl rfl (R_eql rfl rfl rfl) ?_
      refine WL_val rfl rfl rfl (R_pickF rfl rfl rfl) ?_
      refine WL_val rfl rfl rfl (R_assign rfl rfl) ?_
      refine WL_nil ?_
      refine WQ_code ?_
      refine WC_dec rfl (fun c3 => ?_) (fun c3 => ?_)
      · have hn := c3
        refine WC_seq ?_
        refine WC_region ?_
        refine WL_val rfl rfl rfl (R_assign rfl rfl) ?_
        refine WL_nil ?_
        refine WQ_code ?_
        refine WC_ret ?_
        refine WQ_ret rfl rfl (.cons (.tmp rfl) .nil) rfl (by
            first | exact ⟨congrArg (Value.int .i64) (may_arg hr).symm, rfl⟩ | exact ⟨congrArg (Value.int .i64) (may_time hr (by omega)).symm, rfl⟩ | exact ⟨congrArg (Value.int .i64) (may_fine hr (by omega)).symm, rfl⟩) (pqZ)
      · have hn := c3
        refine WC_skip ?_
        refine WQ_code ?_
        refine WC_seq ?_
        refine WC_region ?_
        refine WL_val rfl rfl rfl (R_assign rfl rfl) ?_
        refine WL_nil ?_
        refine WQ_code ?_
        refine WC_ret ?_
        refine WQ_ret rfl rfl (.cons (.tmp rfl) .nil) rfl (by
            first | exact ⟨congrArg (Value.int .i64) (may_arg hr).symm, rfl⟩ | exact ⟨congrArg (Value.int .i64) (may_time hr (by omega)).symm, rfl⟩ | exact ⟨congrArg (Value.int .i64) (may_fine hr (by omega)).symm, rfl⟩) (pqZ)
theorem pmay_nil (right : Bool) (now : Nat) : Spec Try.prog 33 [.pointer none, .bool right, .int .u64 (now : Int)] [] (fun r H' => r = .int .i64 1 ∧ H' = []) := by
  refine Spec.of (E := [(0, .pointer none), (1, .bool right), (2, .int .u64 (now : Int))]) Try.func33 rfl (by kernel_rfl) Try.ntmps33 rfl rfl (fun w => ?_)
  refine WC_seq ?_
  refine WC_region ?_
  refine WL_val rfl rfl rfl (R_assign rfl rfl) ?_
  refine WL_nil ?_
  refine WQ_code ?_
  refine WC_seq ?_
  refine WC_block ?_
  refine WC_seq ?_
  refine WC_region ?_
  refine WL_val rfl rfl rfl (R_move rfl rfl) ?_
  refine WL_do rfl rfl rfl (D_call (pnone_nil) rfl rfl rfl rfl (pqZ)) ?_
  rintro _ _ ⟨_, ⟨rfl, rfl⟩, rfl⟩
  refine WL_val rfl rfl rfl (R_assign rfl rfl) ?_
  refine WL_nil ?_
  refine WQ_code ?_
  refine WC_T rfl ?_
  refine WC_seq ?_
  refine WC_region ?_
  refine WL_val rfl rfl rfl (R_assign rfl rfl) ?_
  refine WL_nil ?_
  refine WQ_code ?_
  refine WC_ret ?_
  refine WQ_ret rfl rfl (.cons (.tmp rfl) .nil) rfl (by
      exact ⟨rfl, rfl⟩) (pqZ)
theorem pfull_ok {m : PM} {s : PS} (h : PIs m s) (hE : s.E.length ≤ 10000) : Spec Try.prog 36 [ptrP m.p] [poP m s] (fun r H' => r = .int .i64 0 ∧ H' = [poP m s]) := by
  refine Spec.of (E := [(0, ptrP m.p)]) Try.func36 rfl (by kernel_rfl) Try.ntmps36 rfl rfl (fun w => ?_)
  refine WC_seq ?_
  refine WC_region ?_
  refine WL_val rfl rfl rfl (R_assign rfl rfl) ?_
  refine WL_nil ?_
  refine WQ_code ?_
  refine WC_seq ?_
  refine WC_seq ?_
  refine WC_region ?_
  refine WL_val rfl rfl rfl (R_move rfl rfl) ?_
  refine WL_val rfl rfl rfl (R_nilCheck rfl rfl) ?_
  refine WL_val rfl rfl rfl (R_fieldAddr rfl fa71_7 rfl) ?_
  refine WL_val rfl rfl rfl (R_load (v := sVal m.eb m.ek s.E.length m.ec) rfl sc56 rfl (mmZ) (pc_t h.cl rfl 2)) ?_
  refine WL_val rfl rfl rfl (R_lenS rfl Try.underlying56 rfl) ?_
  refine WL_val rfl rfl rfl (R_gtr rfl rfl rfl) ?_
  refine WL_nil ?_
  refine WQ_code ?_
  refine WC_dF rfl (by omega) ?_
  refine WC_skip ?_
  refine WQ_code ?_
  refine WC_seq ?_
  refine WC_region ?_
  refine WL_val rfl rfl rfl (R_assign rfl rfl) ?_
  refine WL_nil ?_
  refine WQ_code ?_
  refine WC_ret ?_
  refine WQ_ret rfl rfl (.cons (.tmp rfl) .nil) rfl (by
      exact ⟨rfl, rfl⟩) (pqZ)
theorem pall_ok {m : PM} {s : PS} (h : PIs m s) (t : Int) : Spec Try.prog 29 [ptrP m.p, .int .i64 t] [poP m s] (fun r H' => ∃ (o : Option Nat) (c : Nat) (tl : List Value), r = slV o (allI t s.C).length c ∧ Own o (allI t s.C).length c 1 (ivs (allI t s.C)) tl ∧ H' = [⟨o, cl (ivs (allI t s.C) ++ tl) 3⟩, poP m s]) := by
  refine Spec.of (E := [(0, ptrP m.p), (1, .int .i64 t)]) Try.func29 rfl (by kernel_rfl) Try.ntmps29 rfl rfl (fun w => ?_)
  refine WC_seq ?_
  refine WC_region ?_
  refine WL_val rfl rfl rfl (R_assign rfl rfl) ?_
  refine WL_nil ?_
  refine WQ_code ?_
  refine WC_seq ?_
  refine WC_region ?_
  refine WL_val rfl rfl rfl (R_assign rfl rfl) ?_
  refine WL_nil ?_
  refine WQ_code ?_
  refine WC_seq ?_
  refine WC_seq ?_
  refine WC_region ?_
  refine WL_val rfl rfl rfl (R_move rfl rfl) ?_
  refine WL_val rfl rfl rfl (R_nilCheck rfl rfl) ?_
  refine WL_val rfl rfl rfl (R_fieldAddr rfl fa71_4 rfl) ?_
  refine WL_val rfl rfl rfl (R_loadA (vs := s.C.flatMap encC) rfl ag67 rfl mmZ (pc_len h.cl) (pc_at h.cl rfl)) ?_
  refine WL_val rfl rfl rfl (R_move rfl rfl) ?_
  refine WL_nil ?_
  refine WQ_code ?_
  refine WC_block ?_
  refine WC_none 3 ?_
  refine WC_loopF (G := AllW) [5, 6, 7, 12, 13, 14, 15, 16, 17, 18, 19, 20, 21, 22, 23, 24] (fun y => y.i ≤ 64 ∧ y.l = allI t (s.C.take y.i) ∧ Own y.ob y.l.length y.c 1 (ivs y.l) y.tl) (fun y => [(12, .int .i64 (y.i : Int)), (5, slV y.ob y.l.length y.c)]) (fun y => [⟨y.ob, cl (ivs y.l ++ y.tl) 3⟩]) (fun y => 64 - y.i) (⟨0, [], none, 0, []⟩) (⟨Nat.zero_le _, rfl, Own.empty 1⟩) leZ (pqZ) ?_
  rintro y ⟨hi, hl9, own9⟩
  refine WC_seq ?_
  refine WC_region ?_
  refine WL_val rfl rfl rfl (R_lss rfl rfl rfl) ?_
  refine WL_nil ?_
  refine WQ_code ?_
  refine WC_seq ?_
  refine WC_dec rfl (fun c1 => ?_) (fun c1 => ?_)
  · refine WC_skip ?_
    refine WQ_code ?_
    refine WC_seq ?_
    refine WC_block ?_
    refine WC_seq ?_
    refine WC_region ?_
    refine WL_val rfl rfl rfl (R_move rfl rfl) ?_
    obtain ⟨x, hx⟩ := getE (T := s.C) (i := y.i) (by rw [h.cl]; omega)
    have hl64 : y.l.length ≤ 64 := by rw [hl9]; have := allI_len t (s.C.take y.i); rw [List.length_take] at this; omega
    refine WL_val rfl rfl rfl (R_indexArrA rfl Try.underlying67 ag66 rfl rfl ⟨by omega, by omega⟩ rfl (by have := fm_at encC3 hx (j := 0) (vs := encC x) (atZ) (by simp) []; rw [List.append_nil] at this; exact this)) ?_
    refine WL_do rfl rfl rfl (D_alloc rfl zv66) ?_
    rintro _ _ ⟨b1, rfl, rfl⟩
    refine WL_val rfl rfl rfl (R_assign rfl rfl) ?_
    refine WL_do0 rfl rfl (D_store (vs := [_, _, _]) rfl Try.sizeOf66 rfl rfl rfl rfl rfl (plZ) (by exact Nat.le_of_ble_eq_true rfl)) ?_
    rintro _ _ rfl
    refine WL_nil ?_
    refine WQ_code ?_
    refine WC_seq ?_
    refine WC_region ?_
    refine WL_val rfl rfl rfl (R_fieldAddr rfl fa66_0 rfl) ?_
    refine WL_val rfl rfl rfl (R_load rfl sc64 rfl (mmZ) rfl) ?_
    refine WL_val rfl rfl rfl (R_move rfl rfl) ?_
    refine WL_val rfl rfl rfl (R_eql rfl rfl rfl) ?_
    refine WL_nil ?_
    refine WQ_code ?_
    refine WC_dec rfl (fun c2 => ?_) (fun c2 => ?_)
    · have hc := c2
      have hnx : allI t (s.C.take (y.i + 1)) = allI t (s.C.take y.i) ++ [(y.i : Int)] := by rw [allI_next hx, if_pos hc]
      refine WC_region ?_
      refine WL_val rfl rfl rfl (R_move rfl rfl) ?_
      refine WL_val rfl rfl rfl (R_move rfl rfl) ?_
      refine WL_do rfl rfl rfl (D_buildSlice rfl si78 rfl rfl rfl) ?_
      rintro _ _ ⟨b2, rfl, rfl⟩
      refine WL_do rfl rfl rfl (D_append rfl si78 rfl (own9) (plZ) rfl (mmZ) ((atZ : At _ 0 [_])) (rfl) (rfl) (by (omega)) (by (omega))) ?_
      rintro _ _ ⟨ob3, cap3, tl3, rfl, own3, rfl⟩
      have hiv : ivs y.l ++ [Value.int .i64 (y.i : Int)] = ivs (y.l ++ [(y.i : Int)]) := by simp [ivs]
      rw [hiv, show y.l.length + 1 = (y.l ++ [(y.i : Int)]).length from by simp] at own3
      rw [hiv, show y.l.length + 1 = (y.l ++ [(y.i : Int)]).length from by simp]
      refine WL_val rfl rfl rfl (R_assign rfl rfl) ?_
      refine WL_nil ?_
      refine WQ_code ?_
      refine WC_region ?_
      refine WL_val rfl rfl rfl (R_add rfl rfl rfl (by omega)) ?_
      refine WL_val rfl rfl rfl (R_move rfl rfl) ?_
      refine WL_nil ?_
      refine WQ_nextF (⟨y.i + 1, y.l ++ [(y.i : Int)], ob3, cap3, tl3⟩) (⟨by dsimp only; omega, by dsimp only; rw [hnx, hl9], own3⟩) (by dsimp only; omega) leZ (psZ) rfl (pqZ)
    · have hc := c2
      have hnx : allI t (s.C.take (y.i + 1)) = allI t (s.C.take y.i) := by rw [allI_next hx, if_neg hc, List.append_nil]
      refine WC_skip ?_
      refine WQ_code ?_
      refine WC_region ?_
      refine WL_val rfl rfl rfl (R_add rfl rfl rfl (by omega)) ?_
      refine WL_val rfl rfl rfl (R_move rfl rfl) ?_
      refine WL_nil ?_
      refine WQ_nextF (⟨y.i + 1, y.l, y.ob, y.c, y.tl⟩) (⟨by dsimp only; omega, by dsimp only; rw [hnx, hl9], own9⟩) (by dsimp only; omega) leZ (psZ) rfl (pqZ)
  · have hi64 : y.i = 64 := by omega
    refine WC_exit ?_
    refine WQ_code ?_
    refine WC_seq ?_
    refine WC_region ?_
    refine WL_val rfl rfl rfl (R_move rfl rfl) ?_
    refine WL_val rfl rfl rfl (R_assign rfl rfl) ?_
    refine WL_nil ?_
    refine WQ_code ?_
    refine WC_ret ?_
    have hly : y.l = allI t s.C := by rw [hl9, List.take_of_length_le (by rw [h.cl]; omega)]
    rw [← hly]
    refine WQ_ret rfl rfl (.cons (.tmp rfl) .nil) rfl (by
        exact ⟨y.ob, y.c, y.tl, rfl, own9, rfl⟩) (pqZ)

end Go.Proofs.Yteofigbgdbpjgaa
