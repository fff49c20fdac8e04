/-
  Chapter 09 (park), part TaskRB: contracts of functions that the laws call, each for the heap it names.
-/
import Derived.Test.YtljmeemgjbcgeaaRows
import Derived.Test.YtljmeemgjbcgeaaZSLQueue
import Derived.Test.YtljmeemgjbcgeaaTab
import Derived.Test.YtljmeemgjbcgeaaTaskRf
set_option linter.unusedVariables false
set_option maxRecDepth 20000
set_option maxHeartbeats 2000000
namespace Go.Proofs.Ytljmeemgjbcgeaa


theorem own_set1 {ob : Option Nat} {n c : Nat} {l : List Int} {tw : List Value} (h : Own ob n c 1 (ivs l) tw) (j : Nat) (y : Int) : Own ob n c 1 (ivs (l.set j y)) tw := by
  have e : (ivs (l.set j y)).length = (ivs l).length := by rw [fm_length encI1, fm_length encI1, List.length_set]
  exact ⟨by rw [e]; exact h.len, by rw [e]; exact h.cap, h.le, h.big, h.nil⟩
theorem ivs_snoc (l : List Int) (i : Int) : ivs (l ++ [i]) = ivs l ++ [.int .i64 i] := by simp
theorem refIs_mk {sm qm : List Int} {n m : Nat} {xs : List Value} {os : Option Nat} {sc : Nat} {ts : List Value} {oq : Option Nat} {qc : Nat} {tq : List Value} (hs : Own os n sc 1 (ivs sm) ts) (hq : Own oq m qc 1 xs tq) (hn : sm.length = n) (hm : qm.length = m) (hx : ivs qm = xs) :
    RefIs sm qm (rV os n sc oq m qc) [⟨os, cl (ivs sm ++ ts) 3⟩, ⟨oq, cl (xs ++ tq) 3⟩] := by
  subst hn hm hx
  exact ⟨_, _, _, _, _, _, rfl, hs, hq, rfl⟩
theorem change_ok (sm qm : List Int) (os : Option Nat) (sc : Nat) (ts : List Value) (oq : Option Nat) (qc : Nat) (tq : List Value) (hos : Own os sm.length sc 1 (ivs sm) ts) (hoq : Own oq qm.length qc 1 (ivs qm) tq) (hl : sm.length ≤ 64) (hq : qm.length ≤ 64) (i fr to : Int) : Spec Try.prog 73 [rV os sm.length sc oq qm.length qc, .int .i64 i, .int .i64 fr, .int .i64 to] (rH os sm ts oq qm tq) (fun r H' => ∃ V', r = .tuple #[V', .int .i64 (stepR sm qm fr to i).1] ∧ RefIs (stepR sm qm fr to i).2.1 (stepR sm qm fr to i).2.2 V' H') := by
  have hsc := hos.le
  have hsb := hos.big
  refine Spec.of (E := [(0, rV os sm.length sc oq qm.length qc), (1, .int .i64 i), (2, .int .i64 fr), (3, .int .i64 to)]) Try.func73 rfl (by kernel_rfl) Try.ntmps73 rfl rfl (fun w => ?_)
  refine WC_seq ?_
  refine WC_region ?_
  refine WL_do rfl rfl rfl (D_box (cs := [_, _]) rfl rfl rfl) ?_
  rintro _ _ ⟨b1, rfl, rfl⟩
  refine WL_do rfl rfl rfl (D_alloc rfl zv54) ?_
  rintro _ _ ⟨b2, rfl, rfl⟩
  refine WL_val rfl rfl rfl (R_assign rfl rfl) ?_
  refine WL_nil ?_
  refine WQ_code ?_
  refine WC_seq ?_
  refine WC_region ?_
  refine WL_val rfl rfl rfl (R_loadA (vs := [_, _]) rfl ag54 rfl (mmZ) rfl (atZ)) ?_
  refine WL_val rfl rfl rfl (R_move rfl rfl) ?_
  refine WL_do rfl rfl rfl (D_call (rstate_ok sm qm os sc ts oq qc tq hos hoq i) rfl rfl rfl rfl (pqZ)) ?_
  rintro _ _ ⟨_, ⟨rfl, rfl⟩, rfl⟩
  refine WL_val rfl rfl rfl (R_move rfl rfl) ?_
  refine WL_val rfl rfl rfl (R_extract rfl rfl rfl) ?_
  refine WL_val rfl rfl rfl (R_extract rfl rfl rfl) ?_
  refine WL_val rfl rfl rfl (R_assign rfl rfl) ?_
  refine WL_val rfl rfl rfl (R_assign rfl rfl) ?_
  refine WL_nil ?_
  refine WQ_code ?_
  refine WC_seq ?_
  refine WC_seq ?_
  refine WC_region ?_
  refine WL_val rfl rfl rfl (R_move rfl rfl) ?_
  refine WL_val rfl rfl rfl (R_neq rfl rfl rfl) ?_
  refine WL_nil ?_
  refine WQ_code ?_
  refine WC_dec rfl (fun c1 => ?_) (fun c1 => ?_)
  · have hr : i < 0 ∨ (sm.length : Int) ≤ i := by by_cases h9 : i < 0 ∨ (sm.length : Int) ≤ i; exact h9; exact absurd (show (stR sm i).2 = 0 by rw [stR, if_neg h9]) c1
    simp only [stR_out hr]
    refine WC_seq ?_
    refine WC_region ?_
    refine WL_val rfl rfl rfl (R_loadA (vs := [_, _]) rfl ag54 rfl (mmZ) rfl (atZ)) ?_
    refine WL_val rfl rfl rfl (R_move rfl rfl) ?_
    refine WL_do0 rfl rfl (D_store (vs := [_, _]) rfl Try.sizeOf54 rfl rfl rfl rfl rfl (plZ) (by exact Nat.le_of_ble_eq_true rfl)) ?_
    rintro _ _ rfl
    refine WL_val rfl rfl rfl (R_assign rfl rfl) ?_
    refine WL_nil ?_
    refine WQ_code ?_
    refine WC_ret ?_
    refine WQ_ret rfl rfl (.cons (.cell (vs := [_, _]) rfl ag54 (mmZ) rfl (atZ)) (.cons (.tmp rfl) .nil)) rfl (by
        rw [stepR_out hr]
        exact ⟨_, rfl, os, sc, ts, oq, qc, tq, rfl, hos, hoq, rfl⟩) (pqZ)
  · have hr : ¬ (i < 0 ∨ (sm.length : Int) ≤ i) := fun h9 => c1 (by rw [stR_out h9]; decide)
    obtain ⟨i, rfl⟩ := Int.eq_ofNat_of_zero_le (show 0 ≤ i by omega)
    obtain ⟨x, hx⟩ := exE (T := sm) (i := i) (by omega)
    obtain ⟨wb, rfl⟩ := hos.some_of (by omega)
    simp only [stR_in hx]
    refine WC_skip ?_
    refine WQ_code ?_
    refine WC_seq ?_
    refine WC_seq ?_
    refine WC_region ?_
    refine WL_val rfl rfl rfl (R_move rfl rfl) ?_
    refine WL_val rfl rfl rfl (R_move rfl rfl) ?_
    refine WL_val rfl rfl rfl (R_neq rfl rfl rfl) ?_
    refine WL_nil ?_
    refine WQ_code ?_
    refine WC_dec rfl (fun c2 => ?_) (fun c2 => ?_)
    · have hne : x ≠ fr := c2
      refine WC_seq ?_
      refine WC_region ?_
      refine WL_val rfl rfl rfl (R_loadA (vs := [_, _]) rfl ag54 rfl (mmZ) rfl (atZ)) ?_
      refine WL_do0 rfl rfl (D_store (vs := [_, _]) rfl Try.sizeOf54 rfl rfl rfl rfl rfl (plZ) (by exact Nat.le_of_ble_eq_true rfl)) ?_
      rintro _ _ rfl
      refine WL_val rfl rfl rfl (R_assign rfl rfl) ?_
      refine WL_nil ?_
      refine WQ_code ?_
      refine WC_ret ?_
      refine WQ_ret rfl rfl (.cons (.cell (vs := [_, _]) rfl ag54 (mmZ) rfl (atZ)) (.cons (.tmp rfl) .nil)) rfl (by
          rw [stepR_bad hx hne]
          exact ⟨_, rfl, some wb, sc, ts, oq, qc, tq, rfl, hos, hoq, rfl⟩) (pqZ)
    · have hfr : x = fr := Decidable.not_not.1 c2
      subst hfr
      refine WC_skip ?_
      refine WQ_code ?_
      refine WC_seq ?_
      refine WC_drawB _ [(0, .q), (1, .q), (3, .q), (4, .q), (5, .q), (2, .n [8]), (6, .n [8]), (7, .q), (8, .b []), (9, .n [])] followsMixed rfl rfl (by kernel_rfl) .all ?_
      refine WB_val rfl rfl rfl rfl (R_fieldAddr rfl fa54_0 rfl) ?_
      refine WB_val rfl rfl rfl rfl (R_load rfl sc32 rfl (mmZ) rfl) ?_
      refine WB_val rfl rfl rfl rfl (R_fieldAddr rfl fa54_1 rfl) ?_
      refine WB_val rfl rfl rfl rfl (R_load rfl sc32 rfl (mmZ) rfl) ?_
      refine WB_val rfl rfl rfl rfl (R_move rfl rfl) ?_
      refine WB_none 3 ?_
      refine WB_do rfl rfl rfl rfl (.cons rfl rfl (B_alloc rfl zv54) .nil) (fun _ => D_append rfl si32 rfl ((Own.empty 1)) (plZ) rfl (mmZ) ((fun j v hj => by rw [Nat.zero_add, List.getElem?_append_left (List.getElem?_eq_some_iff.1 hj).1]; exact hj : At (ivs sm ++ ts) 0 (ivs sm))) (fm_length encI1 sm) (ivs_one sm) (by omega) (by omega)) ?_
      rintro _ _ ⟨ob3, cap3, tl3, rfl, own3, rfl⟩
      refine ⟨⟨_, pqZ⟩, ?_⟩
      rw [show 0 + sm.length = sm.length from by omega, List.nil_append] at *
      refine WB_do rfl rfl rfl rfl (.cons rfl rfl (B_alloc rfl zv54) .nil) (fun _ => D_call (without_ok qm oq qc tq hoq hq i) rfl rfl rfl rfl (pqZ)) ?_
      rintro _ _ ⟨_, ⟨oq2, qc2, tq2, rfl, own2, rfl⟩, rfl⟩
      refine ⟨⟨_, pqZ⟩, ?_⟩
      refine WB_val rfl rfl rfl rfl (R_build rfl zv54 pl54 rfl rfl) ?_
      refine WB_birth rfl rfl rfl rfl .nil (B_alloc rfl zv54) (fun b4 => ?_)
      refine WB_do0 rfl rfl rfl .nil (fun _ => D_store (vs := [_, _]) rfl Try.sizeOf54 rfl rfl rfl rfl rfl (plZ) (by exact Nat.le_of_ble_eq_true rfl)) ?_
      rintro _ _ rfl
      refine ⟨⟨_, pqZ⟩, ?_⟩
      refine WB_nil ?_
      refine WQ_code ?_
      refine WC_seq ?_
      refine WC_region ?_
      refine WL_val rfl rfl rfl (R_fieldAddr rfl fa54_0 rfl) ?_
      refine WL_val rfl rfl rfl (R_load rfl sc32 rfl (mmZ) rfl) ?_
      refine WL_val rfl rfl rfl (R_move rfl rfl) ?_
      refine WL_val rfl rfl rfl (R_move rfl rfl) ?_
      obtain ⟨wb3, rfl⟩ := own3.some_of (by omega)
      refine WL_val rfl rfl rfl (R_indexAddrN rfl Try.underlying32 Try.sizeOf3 rfl rfl (by omega)) ?_
      refine WL_do0 rfl rfl (D_store (vs := [_]) rfl Try.sizeOf3 rfl rfl rfl rfl rfl (plZ) (by exact fm_room0 encI1 (List.getElem?_eq_some_iff.1 hx).1 (j := 0) (by omega))) ?_
      rintro _ _ rfl
      have hput := fm_put0 encI1 to hx (j := 0) (vs := [.int .i64 to]) (by simp) rfl (tl := tl3)
      rw [Nat.add_zero] at hput
      rw [hput]
      refine WL_nil ?_
      refine WQ_code ?_
      refine WC_seq ?_
      refine WC_seq ?_
      refine WC_region ?_
      refine WL_val rfl rfl rfl (R_move rfl rfl) ?_
      refine WL_val rfl rfl rfl (R_eql rfl rfl rfl) ?_
      refine WL_nil ?_
      refine WQ_code ?_
      refine WC_dec rfl (fun c3 => ?_) (fun c3 => ?_)
      · have hto : to = 1 := c3
        refine WC_region ?_
        refine WL_val rfl rfl rfl (R_fieldAddr rfl fa54_1 rfl) ?_
        refine WL_val rfl rfl rfl (R_load rfl sc32 rfl (mmZ) rfl) ?_
        refine WL_val rfl rfl rfl (R_move rfl rfl) ?_
        refine WL_do rfl rfl rfl (D_buildSlice rfl si32 rfl rfl rfl) ?_
        rintro _ _ ⟨b5, rfl, rfl⟩
        have hfl := List.length_filter_le (fun y => decide (y ≠ (i : Int))) qm
        refine WL_do rfl rfl rfl (D_append rfl si32 rfl (own2) (plZ) rfl (mmZ) ((atZ : At _ 0 [_])) (rfl) (rfl) (by omega) (by omega)) ?_
        rintro _ _ ⟨ob6, cap6, tl6, rfl, own6, rfl⟩
        refine WL_val rfl rfl rfl (R_fieldAddr rfl fa54_1 rfl) ?_
        refine WL_do0 rfl rfl (D_store (vs := [_]) rfl Try.sizeOf32 rfl rfl rfl rfl rfl (plZ) (by exact Nat.le_of_ble_eq_true rfl)) ?_
        rintro _ _ rfl
        refine WL_nil ?_
        refine WQ_code ?_
        refine WC_seq ?_
        refine WC_region ?_
        refine WL_val rfl rfl rfl (R_loadA (vs := [_, _]) rfl ag54 rfl (mmZ) rfl (atZ)) ?_
        refine WL_do0 rfl rfl (D_store (vs := [_, _]) rfl Try.sizeOf54 rfl rfl rfl rfl rfl (plZ) (by exact Nat.le_of_ble_eq_true rfl)) ?_
        rintro _ _ rfl
        refine WL_val rfl rfl rfl (R_assign rfl rfl) ?_
        refine WL_nil ?_
        refine WQ_code ?_
        refine WC_ret ?_
        refine WQ_ret rfl rfl (.cons (.cell (vs := [_, _]) rfl ag54 (mmZ) rfl (atZ)) (.cons (.tmp rfl) .nil)) rfl (by
            rw [stepR_ok hx, if_pos hto]
            exact ⟨_, rfl, refIs_mk (own_set1 own3 i to) own6 List.length_set (by rw [List.length_append]; rfl) (ivs_snoc _ _)⟩) (pqZ)
      · have hto : ¬ to = 1 := c3
        refine WC_skip ?_
        refine WQ_code ?_
        refine WC_seq ?_
        refine WC_region ?_
        refine WL_val rfl rfl rfl (R_loadA (vs := [_, _]) rfl ag54 rfl (mmZ) rfl (atZ)) ?_
        refine WL_do0 rfl rfl (D_store (vs := [_, _]) rfl Try.sizeOf54 rfl rfl rfl rfl rfl (plZ) (by exact Nat.le_of_ble_eq_true rfl)) ?_
        rintro _ _ rfl
        refine WL_val rfl rfl rfl (R_assign rfl rfl) ?_
        refine WL_nil ?_
        refine WQ_code ?_
        refine WC_ret ?_
        refine WQ_ret rfl rfl (.cons (.cell (vs := [_, _]) rfl ag54 (mmZ) rfl (atZ)) (.cons (.tmp rfl) .nil)) rfl (by
            rw [stepR_ok hx, if_neg hto, List.append_nil]
            exact ⟨_, rfl, refIs_mk (own_set1 own3 i to) own2 List.length_set rfl rfl⟩) (pqZ)

end Go.Proofs.Ytljmeemgjbcgeaa
