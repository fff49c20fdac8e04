/-
  Chapter 09 (park), part RefC: contracts of functions that the laws call, each for the heap it names.
-/
import Derived.Test.YtljmeemgjbcgeaaRows
import Derived.Test.YtljmeemgjbcgeaaZSLQueue
import Derived.Test.YtljmeemgjbcgeaaTab
import Derived.Test.YtljmeemgjbcgeaaRefB
import Derived.Test.YtljmeemgjbcgeaaZSLArg
set_option linter.unusedVariables false
set_option maxRecDepth 20000
set_option maxHeartbeats 2000000
namespace Go.Proofs.Ytljmeemgjbcgeaa


theorem rf_where (s : PS) (r : RfM) (hr : RfOk s r) (hs : s.sm.length ≤ 64) (hroom : s.qm.length + s.W.length ≤ 64) (hp : PsOk s) (i : Int) : Spec Try.prog 52 [rfV s r, .int .i64 i] (rfH s r) (fun v H' => v = .tuple #[ekS (s.whr i).1, .int .i64 (s.whr i).2] ∧ H' = rfH s r) := by
  refine Spec.of (E := [(0, rfV s r), (1, .int .i64 i)]) Try.func52 rfl (by kernel_rfl) Try.ntmps52 rfl rfl (fun w => ?_)
  refine WC_seq ?_
  refine WC_region ?_
  refine WL_do rfl rfl rfl (D_box (cs := [_, _, _]) rfl rfl rfl) ?_
  rintro _ _ ⟨b1, rfl, rfl⟩
  refine WL_do rfl rfl rfl (D_alloc rfl zv25) ?_
  rintro _ _ ⟨b2, rfl, rfl⟩
  refine WL_val rfl rfl rfl (R_assign rfl rfl) ?_
  refine WL_nil ?_
  refine WQ_code ?_
  refine WC_seq ?_
  refine WC_seq ?_
  refine WC_region ?_
  refine WL_val rfl rfl rfl (R_fieldAddr rfl fa57_0 rfl) ?_
  refine WL_val rfl rfl rfl (R_loadA (vs := [_, _]) rfl ag54 rfl (mmY) rfl (atZ)) ?_
  refine WL_val rfl rfl rfl (R_move rfl rfl) ?_
  refine WL_do rfl rfl rfl (D_call (rstate_ok s.sm s.qm r.os r.sc r.ts r.oq r.qc r.tq hr.os hr.oq i) rfl rfl rfl rfl (pqY)) ?_
  rintro _ _ ⟨_, ⟨rfl, rfl⟩, rfl⟩
  refine WL_val rfl rfl rfl (R_move rfl rfl) ?_
  refine WL_val rfl rfl rfl (R_extract rfl rfl rfl) ?_
  refine WL_val rfl rfl rfl (R_extract rfl rfl rfl) ?_
  refine WL_val rfl rfl rfl (R_assign rfl rfl) ?_
  refine WL_val rfl rfl rfl (R_assign rfl rfl) ?_
  refine WL_nil ?_
  refine WQ_code ?_
  refine WC_seq ?_
  refine WC_region ?_
  refine WL_val rfl rfl rfl (R_move rfl rfl) ?_
  refine WL_val rfl rfl rfl (R_neq rfl rfl rfl) ?_
  refine WL_nil ?_
  refine WQ_code ?_
  refine WC_dec rfl (fun c1 => ?_) (fun c1 => ?_)
  · have e9 : s.whr i = ((0, 0), (stR s.sm i).2) := by unfold PS.whr; rw [if_pos c1]
    refine WC_seq ?_
    refine WC_region ?_
    refine WL_val rfl rfl rfl (R_build rfl zv25 pl25 rfl rfl) ?_
    refine WL_val rfl rfl rfl (R_move rfl rfl) ?_
    refine WL_do0 rfl rfl (D_store (vs := [_, _]) rfl Try.sizeOf25 rfl rfl rfl rfl rfl (plY) (by exact Nat.le_of_ble_eq_true rfl)) ?_
    rintro _ _ rfl
    refine WL_val rfl rfl rfl (R_assign rfl rfl) ?_
    refine WL_nil ?_
    refine WQ_code ?_
    refine WC_ret ?_
    refine WQ_ret rfl rfl (.cons (.cell (vs := [_, _]) rfl ag25 (mmY) rfl (atZ)) (.cons (.tmp rfl) .nil)) rfl (by
        exact ⟨by rw [e9]; rfl, rfl⟩) (pqY)
  · have h0 : (stR s.sm i).2 = 0 := Decidable.not_not.1 c1
    refine WC_skip ?_
    refine WQ_code ?_
    refine WC_seq ?_
    refine WC_seq ?_
    refine WC_region ?_
    refine WL_val rfl rfl rfl (R_assign rfl rfl) ?_
    refine WL_nil ?_
    refine WQ_code ?_
    refine WC_block ?_
    refine WC_loopF (G := Nat) [5, 8, 20, 21, 22, 23, 24, 25, 26, 27, 28, 29, 30, 31, 32, 33, 34, 35, 36, 37, 38, 39, 40] (fun j => j ≤ s.W.length ∧ ∀ (k : Nat) (z : Wt), k < j → s.W[k]? = some z → (z.i : Int) ≠ i) (fun j => [(8, .int .i64 (j : Int))]) (fun j => []) (fun j => s.W.length - j) (0) (⟨Nat.zero_le _, fun k z h => absurd h (Nat.not_lt_zero k)⟩) leZ (pqY) ?_
    rintro j ⟨hj, hno⟩
    refine WC_seq ?_
    refine WC_seq ?_
    refine WC_region ?_
    refine WL_val rfl rfl rfl (R_move rfl rfl) ?_
    refine WL_val rfl rfl rfl (R_fieldAddr rfl fa57_1 rfl) ?_
    refine WL_val rfl rfl rfl (R_load rfl sc55 rfl (mmY) rfl) ?_
    refine WL_val rfl rfl rfl (R_len rfl Try.underlying55 rfl) ?_
    refine WL_val rfl rfl rfl (R_lss rfl rfl rfl) ?_
    refine WL_nil ?_
    refine WQ_code ?_
    refine WC_dec rfl (fun c2 => ?_) (fun c2 => ?_)
    · refine WC_skip ?_
      refine WQ_code ?_
      refine WC_seq ?_
      refine WC_block ?_
      refine WC_seq ?_
      refine WC_region ?_
      obtain ⟨z, hx⟩ := exE (T := s.W) (i := j) (by omega)
      obtain ⟨wb, hwb⟩ := hr.ow.some_of (by omega)
      refine WL_val rfl rfl rfl (R_fieldAddr rfl fa57_1 rfl) ?_
      refine WL_val rfl rfl rfl (R_load rfl sc55 rfl (mmY) rfl) ?_
      refine WL_val rfl rfl rfl (R_move rfl rfl) ?_
      refine WL_val rfl rfl rfl (R_idxO hwb rfl Try.underlying55 Try.sizeOf100 rfl rfl (by omega)) ?_
      refine WL_val rfl rfl rfl (R_fieldAddr rfl fa100_0 rfl) ?_
      refine WL_val rfl rfl rfl (R_loadO (v := .int .i64 (z.i : Int)) hwb rfl sc3 rfl (mmY) (fm_get0 encWt3 hx (j := 0) (by omega))) ?_
      refine WL_val rfl rfl rfl (R_move rfl rfl) ?_
      refine WL_val rfl rfl rfl (R_eql rfl rfl rfl) ?_
      refine WL_nil ?_
      refine WQ_code ?_
      refine WC_dec rfl (fun c3 => ?_) (fun c3 => ?_)
      · obtain rfl : i = (z.i : Int) := by omega
        have e9 := hp.whr_yes (List.mem_of_getElem? hx)
        refine WC_seq ?_
        refine WC_region ?_
        refine WL_val rfl rfl rfl (R_fieldAddr rfl fa57_1 rfl) ?_
        refine WL_val rfl rfl rfl (R_load rfl sc55 rfl (mmY) rfl) ?_
        refine WL_val rfl rfl rfl (R_move rfl rfl) ?_
        refine WL_val rfl rfl rfl (R_idxO hwb rfl Try.underlying55 Try.sizeOf100 rfl rfl (by omega)) ?_
        refine WL_val rfl rfl rfl (R_fieldAddr rfl fa100_1 rfl) ?_
        refine WL_val rfl rfl rfl (R_loadAO (vs := [.int .i64 z.at_.1, .int .i64 z.at_.2]) hwb rfl ag25 rfl (mmY) rfl (fm_at0 encWt3 hx (j := 1) (vs := [.int .i64 z.at_.1, .int .i64 z.at_.2]) (atZ) (by simp))) ?_
        refine WL_do0 rfl rfl (D_store (vs := [_, _]) rfl Try.sizeOf25 rfl rfl rfl rfl rfl (plY) (by exact Nat.le_of_ble_eq_true rfl)) ?_
        rintro _ _ rfl
        refine WL_val rfl rfl rfl (R_assign rfl rfl) ?_
        refine WL_nil ?_
        refine WQ_code ?_
        refine WC_ret ?_
        refine WQ_ret rfl rfl (.cons (.cell (vs := [_, _]) rfl ag25 (mmY) rfl (atZ)) (.cons (.tmp rfl) .nil)) rfl (by
            exact ⟨by rw [e9]; rfl, rfl⟩) (pqY)
      · refine WC_skip ?_
        refine WQ_code ?_
        refine WC_region ?_
        refine WL_val rfl rfl rfl (R_move rfl rfl) ?_
        refine WL_val rfl rfl rfl (R_add rfl rfl rfl (by omega)) ?_
        refine WL_val rfl rfl rfl (R_assign rfl rfl) ?_
        refine WL_nil ?_
        refine WQ_nextF (j + 1) (⟨by omega, fun k u hk hu => by by_cases e : k = j; (subst e; rw [hx] at hu; obtain rfl := Option.some.inj hu; omega); (exact hno k u (by omega) hu)⟩) (by omega) leZ (psZ) rfl (pqY)
    · have e9 : s.whr i = ((0, 0), 8) := whr_miss h0 fun z hz => by obtain ⟨k, hk⟩ := List.getElem?_of_mem hz; exact hno k z (by have := (List.getElem?_eq_some_iff.1 hk).1; omega) hk
      refine WC_exit ?_
      refine WQ_code ?_
      refine WC_seq ?_
      refine WC_region ?_
      refine WL_val rfl rfl rfl (R_build rfl zv25 pl25 rfl rfl) ?_
      refine WL_do0 rfl rfl (D_store (vs := [_, _]) rfl Try.sizeOf25 rfl rfl rfl rfl rfl (plY) (by exact Nat.le_of_ble_eq_true rfl)) ?_
      rintro _ _ rfl
      refine WL_val rfl rfl rfl (R_assign rfl rfl) ?_
      refine WL_nil ?_
      refine WQ_code ?_
      refine WC_ret ?_
      refine WQ_ret rfl rfl (.cons (.cell (vs := [_, _]) rfl ag25 (mmY) rfl (atZ)) (.cons (.tmp rfl) .nil)) rfl (by
          exact ⟨by rw [e9]; rfl, rfl⟩) (pqY)
theorem rf_waiting (s : PS) (r : RfM) (hr : RfOk s r) (hs : s.sm.length ≤ 64) (hroom : s.qm.length + s.W.length ≤ 64) (a : Sp) : Spec Try.prog 53 [rfV s r, ekS a] (rfH s r) (fun v H' => ∃ ob c' tl', v = .tuple #[slV ob (s.waiting a).length c', .int .i64 (spE a)] ∧ Own ob (s.waiting a).length c' 1 (ivs (s.waiting a)) tl' ∧ H' = ⟨ob, cl (ivs (s.waiting a) ++ tl') 3⟩ :: rfH s r) := by
  refine Spec.of (E := [(0, rfV s r), (1, ekS a)]) Try.func53 rfl (by kernel_rfl) Try.ntmps53 rfl rfl (fun w => ?_)
  refine WC_seq ?_
  refine WC_region ?_
  refine WL_do rfl rfl rfl (D_box (cs := [_, _, _]) rfl rfl rfl) ?_
  rintro _ _ ⟨b1, rfl, rfl⟩
  refine WL_do rfl rfl rfl (D_box (cs := [_, _]) rfl rfl rfl) ?_
  rintro _ _ ⟨b2, rfl, rfl⟩
  refine WL_val rfl rfl rfl (R_assign rfl rfl) ?_
  refine WL_val rfl rfl rfl (R_assign rfl rfl) ?_
  refine WL_nil ?_
  refine WQ_code ?_
  refine WC_seq ?_
  refine WC_seq ?_
  refine WC_region ?_
  refine WL_val rfl rfl rfl (R_loadA (vs := [_, _]) rfl ag25 rfl (mmY) rfl (atZ)) ?_
  refine WL_do rfl rfl rfl (D_call (rspot_ok a) rfl rfl rfl rfl (pqY)) ?_
  rintro _ _ ⟨_, ⟨rfl, rfl⟩, rfl⟩
  refine WL_val rfl rfl rfl (R_notD rfl rfl) ?_
  refine WL_nil ?_
  refine WQ_code ?_
  refine WC_dec rfl (fun c1 => ?_) (fun c1 => ?_)
  · have hv : ¬ vldS a := c1
    have hw0 : s.waiting a = [] := if_neg hv
    have hsp : spE a = 2 := if_neg hv
    rw [hw0, hsp]
    refine WC_seq ?_
    refine WC_region ?_
    refine WL_val rfl rfl rfl (R_assign rfl rfl) ?_
    refine WL_val rfl rfl rfl (R_assign rfl rfl) ?_
    refine WL_nil ?_
    refine WQ_code ?_
    refine WC_ret ?_
    refine WQ_none 3 ?_
    refine WQ_ret rfl rfl (.cons (.tmp rfl) (.cons (.tmp rfl) .nil)) rfl (by
        exact ⟨none, 0, [], rfl, Own.empty 1, rfl⟩) (pqY)
  · have hv : vldS a := Decidable.not_not.1 c1
    have hw0 : s.waiting a = wAt s.W a := if_pos hv
    have hsp : spE a = 0 := if_pos hv
    rw [hw0, hsp]
    refine WC_skip ?_
    refine WQ_code ?_
    refine WC_seq ?_
    refine WC_region ?_
    refine WL_val rfl rfl rfl (R_assign rfl rfl) ?_
    refine WL_nil ?_
    refine WQ_code ?_
    refine WC_seq ?_
    refine WC_seq ?_
    refine WC_region ?_
    refine WL_val rfl rfl rfl (R_assign rfl rfl) ?_
    refine WL_nil ?_
    refine WQ_code ?_
    refine WC_block ?_
    refine WC_none 3 ?_
    refine WC_loopF (G := RiW) [6, 7, 11, 12, 13, 14, 15, 16, 17, 18, 19, 20, 21, 22, 23, 24, 25, 26, 27, 28, 29, 30, 31, 32, 33, 34] (fun y => y.j ≤ s.W.length ∧ y.l = wAt (s.W.take y.j) a ∧ y.l.length ≤ y.j ∧ Own y.o y.l.length y.c 1 (ivs y.l) y.t) (fun y => [(7, .int .i64 (y.j : Int)), (6, slV y.o y.l.length y.c)]) (fun y => [⟨y.o, cl (ivs y.l ++ y.t) 3⟩]) (fun y => s.W.length - y.j) (⟨0, [], none, 0, []⟩) (⟨Nat.zero_le _, rfl, Nat.zero_le _, Own.empty 1⟩) leZ (pqY) ?_
    rintro y ⟨hj, hyl, hyn, hyo⟩
    refine WC_seq ?_
    refine WC_seq ?_
    refine WC_region ?_
    refine WL_val rfl rfl rfl (R_move rfl rfl) ?_
    refine WL_val rfl rfl rfl (R_fieldAddr rfl fa57_1 rfl) ?_
    refine WL_val rfl rfl rfl (R_load rfl sc55 rfl (mmY) rfl) ?_
    refine WL_val rfl rfl rfl (R_len rfl Try.underlying55 rfl) ?_
    refine WL_val rfl rfl rfl (R_lss rfl rfl rfl) ?_
    refine WL_nil ?_
    refine WQ_code ?_
    refine WC_dec rfl (fun c2 => ?_) (fun c2 => ?_)
    · refine WC_skip ?_
      refine WQ_code ?_
      refine WC_seq ?_
      refine WC_block ?_
      refine WC_seq ?_
      refine WC_draw _ [(0, true), (1, true), (2, true), (3, true), (4, true), (5, true), (6, true), (7, true)] followsMixed rfl rfl (by kernel_rfl) .all ?_
      obtain ⟨z, hx⟩ := exE (T := s.W) (i := y.j) (by omega)
      obtain ⟨wb, hwb⟩ := hr.ow.some_of (by omega)
      refine WM_val rfl rfl rfl rfl (R_fieldAddr rfl fa57_1 rfl) ?_
      refine WM_val rfl rfl rfl rfl (R_load rfl sc55 rfl (mmY) rfl) ?_
      refine WM_val rfl rfl rfl rfl (R_move rfl rfl) ?_
      refine WM_val rfl rfl rfl rfl (R_idxO hwb rfl Try.underlying55 Try.sizeOf100 rfl rfl (by omega)) ?_
      refine WM_val rfl rfl rfl rfl (R_fieldAddr rfl fa100_1 rfl) ?_
      refine WM_val rfl rfl rfl rfl (R_loadAO (vs := [.int .i64 z.at_.1, .int .i64 z.at_.2]) hwb rfl ag25 rfl (mmY) rfl (fm_at0 encWt3 hx (j := 1) (vs := [.int .i64 z.at_.1, .int .i64 z.at_.2]) (atZ) (by simp))) ?_
      refine WM_val rfl rfl rfl rfl (R_loadA (vs := [_, _]) rfl ag25 rfl (mmY) rfl (atZ)) ?_
      refine WM_val rfl rfl rfl rfl (R_seq25 rfl rfl rfl rfl) ?_
      refine WM_nil ?_
      refine WQ_code ?_
      refine WC_dec rfl (fun c3 => ?_) (fun c3 => ?_)
      · have hza : z.at_ = a := Prod.ext c3.1 c3.2
        refine WC_region ?_
        refine WL_val rfl rfl rfl (R_move rfl rfl) ?_
        refine WL_val rfl rfl rfl (R_fieldAddr rfl fa57_1 rfl) ?_
        refine WL_val rfl rfl rfl (R_load rfl sc55 rfl (mmY) rfl) ?_
        refine WL_val rfl rfl rfl (R_move rfl rfl) ?_
        refine WL_val rfl rfl rfl (R_idxO hwb rfl Try.underlying55 Try.sizeOf100 rfl rfl (by omega)) ?_
        refine WL_val rfl rfl rfl (R_fieldAddr rfl fa100_0 rfl) ?_
        refine WL_val rfl rfl rfl (R_loadO (v := .int .i64 (z.i : Int)) hwb rfl sc3 rfl (mmY) (fm_get0 encWt3 hx (j := 0) (by omega))) ?_
        refine WL_do rfl rfl rfl (D_buildSlice rfl si32 rfl rfl rfl) ?_
        rintro _ _ ⟨b3, rfl, rfl⟩
        refine WL_do rfl rfl rfl (D_append rfl si32 rfl (hyo) (plY) rfl (mmY) ((atZ : At _ 0 [_])) (rfl) (rfl) (by omega) (by omega)) ?_
        rintro _ _ ⟨ob4, cap4, tl4, rfl, own4, rfl⟩
        have hsn : ivs y.l ++ [Value.int .i64 (z.i : Int)] = ivs (y.l ++ [(z.i : Int)]) := by simp
        rw [hsn] at own4 ⊢
        refine WL_val rfl rfl rfl (R_assign rfl rfl) ?_
        refine WL_nil ?_
        refine WQ_code ?_
        refine WC_region ?_
        refine WL_val rfl rfl rfl (R_move rfl rfl) ?_
        refine WL_val rfl rfl rfl (R_add rfl rfl rfl (by omega)) ?_
        refine WL_val rfl rfl rfl (R_assign rfl rfl) ?_
        refine WL_nil ?_
        rw [show y.l.length + 1 = (y.l ++ [(z.i : Int)]).length from by rw [List.length_append, List.length_singleton]]
        refine WQ_nextF (⟨y.j + 1, y.l ++ [(z.i : Int)], ob4, cap4, tl4⟩) (⟨by dsimp only; omega, by dsimp only; rw [tkW hx, wAt_next, if_pos hza, ← hyl], by dsimp only; rw [List.length_append, List.length_singleton]; omega, by dsimp only; rw [List.length_append, List.length_singleton]; exact own4⟩) (by dsimp only; omega) leZ (psZ) rfl (pqY)
      · have hza : ¬ z.at_ = a := fun e => c3 (by rw [e]; exact ⟨rfl, rfl⟩)
        refine WC_skip ?_
        refine WQ_code ?_
        refine WC_region ?_
        refine WL_val rfl rfl rfl (R_move rfl rfl) ?_
        refine WL_val rfl rfl rfl (R_add rfl rfl rfl (by omega)) ?_
        refine WL_val rfl rfl rfl (R_assign rfl rfl) ?_
        refine WL_nil ?_
        refine WQ_nextF (⟨y.j + 1, y.l, y.o, y.c, y.t⟩) (⟨by dsimp only; omega, by dsimp only; rw [tkW hx, wAt_next, if_neg hza, ← hyl, List.append_nil], by dsimp only; omega, hyo⟩) (by dsimp only; omega) leZ (psZ) rfl (pqY)
    · have hfin : y.l = wAt s.W a := by rw [hyl, List.take_of_length_le (by omega)]
      rw [hfin]
      rw [hfin] at hyo
      refine WC_exit ?_
      refine WQ_code ?_
      refine WC_seq ?_
      refine WC_region ?_
      refine WL_val rfl rfl rfl (R_move rfl rfl) ?_
      refine WL_val rfl rfl rfl (R_assign rfl rfl) ?_
      refine WL_val rfl rfl rfl (R_assign rfl rfl) ?_
      refine WL_nil ?_
      refine WQ_code ?_
      refine WC_ret ?_
      refine WQ_ret rfl rfl (.cons (.tmp rfl) (.cons (.tmp rfl) .nil)) rfl (by
          exact ⟨y.o, y.c, y.t, rfl, hyo, rfl⟩) (pqY)
theorem rf_park (s : PS) (r : RfM) (hr : RfOk s r) (hs : s.sm.length ≤ 64) (hroom : s.qm.length + s.W.length ≤ 64) (hp : PsOk s) (i : Int) (a : Sp) : Spec Try.prog 47 [rfV s r, .int .i64 i, ekS a] (rfH s r) (fun v H' => ∃ r' : RfM, v = .tuple #[rfV (s.park i a) r', .int .i64 (s.parkE i a)] ∧ H' = rfH (s.park i a) r' ∧ RfOk (s.park i a) r') := by
  refine Spec.of (E := [(0, rfV s r), (1, .int .i64 i), (2, ekS a)]) Try.func47 rfl (by kernel_rfl) Try.ntmps47 rfl rfl (fun w => ?_)
  refine WC_seq ?_
  refine WC_region ?_
  refine WL_do rfl rfl rfl (D_box (cs := [_, _, _]) rfl rfl rfl) ?_
  rintro _ _ ⟨b1, rfl, rfl⟩
  refine WL_do rfl rfl rfl (D_box (cs := [_, _]) rfl rfl rfl) ?_
  rintro _ _ ⟨b2, rfl, rfl⟩
  refine WL_do rfl rfl rfl (D_alloc rfl zv57) ?_
  rintro _ _ ⟨b3, rfl, rfl⟩
  refine WL_val rfl rfl rfl (R_assign rfl rfl) ?_
  refine WL_nil ?_
  refine WQ_code ?_
  refine WC_seq ?_
  refine WC_region ?_
  refine WL_val rfl rfl rfl (R_fieldAddr rfl fa57_0 rfl) ?_
  refine WL_val rfl rfl rfl (R_loadA (vs := [_, _]) rfl ag54 rfl (mmY) rfl (atZ)) ?_
  refine WL_val rfl rfl rfl (R_move rfl rfl) ?_
  refine WL_do rfl rfl rfl (D_call (rstate_ok s.sm s.qm r.os r.sc r.ts r.oq r.qc r.tq hr.os hr.oq i) rfl rfl rfl rfl (pqY)) ?_
  rintro _ _ ⟨_, ⟨rfl, rfl⟩, rfl⟩
  refine WL_val rfl rfl rfl (R_move rfl rfl) ?_
  refine WL_val rfl rfl rfl (R_extract rfl rfl rfl) ?_
  refine WL_val rfl rfl rfl (R_extract rfl rfl rfl) ?_
  refine WL_val rfl rfl rfl (R_assign rfl rfl) ?_
  refine WL_val rfl rfl rfl (R_assign rfl rfl) ?_
  refine WL_nil ?_
  refine WQ_code ?_
  refine WC_seq ?_
  refine WC_seq ?_
  refine WC_region ?_
  refine WL_val rfl rfl rfl (R_move rfl rfl) ?_
  refine WL_val rfl rfl rfl (R_neq rfl rfl rfl) ?_
  refine WL_nil ?_
  refine WQ_code ?_
  refine WC_dec rfl (fun c1 => ?_) (fun c1 => ?_)
  · have e9 : s.parkE i a = (stR s.sm i).2 := by unfold PS.parkE; rw [if_pos c1]
    have e8 := park_no s (i := i) (at_ := a) (by rw [e9]; exact c1)
    refine WC_seq ?_
    refine WC_region ?_
    refine WL_val rfl rfl rfl (R_loadA (vs := [_, _, _]) rfl ag57 rfl (mmY) rfl (atZ)) ?_
    refine WL_val rfl rfl rfl (R_move rfl rfl) ?_
    refine WL_do0 rfl rfl (D_store (vs := [_, _, _]) rfl Try.sizeOf57 rfl rfl rfl rfl rfl (plY) (by exact Nat.le_of_ble_eq_true rfl)) ?_
    rintro _ _ rfl
    refine WL_val rfl rfl rfl (R_assign rfl rfl) ?_
    refine WL_nil ?_
    refine WQ_code ?_
    refine WC_ret ?_
    refine WQ_ret rfl rfl (.cons (.cell (vs := [_, _, _]) rfl ag57 (mmY) rfl (atZ)) (.cons (.tmp rfl) .nil)) rfl (by
        rw [e8, e9]
        exact ⟨r, rfl, rfl, hr⟩) (pqY)
  · obtain ⟨j, x, rfl, hx1, hst⟩ := stR_some (show (stR s.sm i).2 = 0 from Decidable.not_not.1 c1)
    have h0 : (stR s.sm (j : Int)).2 = 0 := by rw [stR_in hx1]
    refine WC_skip ?_
    refine WQ_code ?_
    refine WC_seq ?_
    refine WC_seq ?_
    refine WC_region ?_
    refine WL_val rfl rfl rfl (R_loadA (vs := [_, _]) rfl ag25 rfl (mmY) rfl (atZ)) ?_
    refine WL_do rfl rfl rfl (D_call (rspot_ok a) rfl rfl rfl rfl (pqY)) ?_
    rintro _ _ ⟨_, ⟨rfl, rfl⟩, rfl⟩
    refine WL_val rfl rfl rfl (R_notD rfl rfl) ?_
    refine WL_nil ?_
    refine WQ_code ?_
    refine WC_dec rfl (fun c2 => ?_) (fun c2 => ?_)
    · have e9 : s.parkE (j : Int) a = 2 := by unfold PS.parkE; rw [if_neg (fun e => e h0), if_neg c2]
      have e8 := park_no s (i := (j : Int)) (at_ := a) (by rw [e9]; decide)
      refine WC_seq ?_
      refine WC_region ?_
      refine WL_val rfl rfl rfl (R_loadA (vs := [_, _, _]) rfl ag57 rfl (mmY) rfl (atZ)) ?_
      refine WL_do0 rfl rfl (D_store (vs := [_, _, _]) rfl Try.sizeOf57 rfl rfl rfl rfl rfl (plY) (by exact Nat.le_of_ble_eq_true rfl)) ?_
      rintro _ _ rfl
      refine WL_val rfl rfl rfl (R_assign rfl rfl) ?_
      refine WL_nil ?_
      refine WQ_code ?_
      refine WC_ret ?_
      refine WQ_ret rfl rfl (.cons (.cell (vs := [_, _, _]) rfl ag57 (mmY) rfl (atZ)) (.cons (.tmp rfl) .nil)) rfl (by
          rw [e8, e9]
          exact ⟨r, rfl, rfl, hr⟩) (pqY)
    · have hv9 : vldS a := Decidable.not_not.1 c2
      refine WC_skip ?_
      refine WQ_code ?_
      refine WC_seq ?_
      refine WC_seq ?_
      refine WC_region ?_
      refine WL_val rfl rfl rfl (R_move rfl rfl) ?_
      refine WL_val rfl rfl rfl (R_neq rfl rfl rfl) ?_
      refine WL_nil ?_
      refine WQ_code ?_
      refine WC_dec rfl (fun c3 => ?_) (fun c3 => ?_)
      · have e9 : s.parkE (j : Int) a = 8 := by unfold PS.parkE; rw [if_neg (fun e => e h0), if_pos hv9, if_neg c3]
        have e8 := park_no s (i := (j : Int)) (at_ := a) (by rw [e9]; decide)
        refine WC_seq ?_
        refine WC_region ?_
        refine WL_val rfl rfl rfl (R_loadA (vs := [_, _, _]) rfl ag57 rfl (mmY) rfl (atZ)) ?_
        refine WL_do0 rfl rfl (D_store (vs := [_, _, _]) rfl Try.sizeOf57 rfl rfl rfl rfl rfl (plY) (by exact Nat.le_of_ble_eq_true rfl)) ?_
        rintro _ _ rfl
        refine WL_val rfl rfl rfl (R_assign rfl rfl) ?_
        refine WL_nil ?_
        refine WQ_code ?_
        refine WC_ret ?_
        refine WQ_ret rfl rfl (.cons (.cell (vs := [_, _, _]) rfl ag57 (mmY) rfl (atZ)) (.cons (.tmp rfl) .nil)) rfl (by
            rw [e8, e9]
            exact ⟨r, rfl, rfl, hr⟩) (pqY)
      · have hj1 : s.sm[j]? = some 1 := by rw [hx1]; congr 1; rw [← hst]; exact Decidable.not_not.1 c3
        obtain ⟨e9, e8⟩ := park_ok' hp hj1 hv9
        have hsr := stepR_ok (sm := s.sm) (qm := s.qm) (to := 2) hj1
        refine WC_skip ?_
        refine WQ_code ?_
        refine WC_seq ?_
        refine WC_region ?_
        refine WL_val rfl rfl rfl (R_fieldAddr rfl fa57_0 rfl) ?_
        refine WL_val rfl rfl rfl (R_loadA (vs := [_, _]) rfl ag54 rfl (mmY) rfl (atZ)) ?_
        refine WL_val rfl rfl rfl (R_move rfl rfl) ?_
        refine WL_do rfl rfl rfl (D_call (rpark_ok s.sm s.qm r.os r.sc r.ts r.oq r.qc r.tq hr.os hr.oq hs (by omega) (j : Int)) rfl rfl rfl rfl (pqY)) ?_
        rintro _ _ ⟨_, ⟨V', rfl, os', sc', ts', oq', qc', tq', rfl, hos', hoq', rfl⟩, rfl⟩
        refine WL_val rfl rfl rfl (R_move rfl rfl) ?_
        refine WL_val rfl rfl rfl (R_extract rfl rfl rfl) ?_
        refine WL_val rfl rfl rfl (R_extract rfl rfl rfl) ?_
        refine WL_do rfl rfl rfl (D_alloc rfl zv54) ?_
        rintro _ _ ⟨b4, rfl, rfl⟩
        refine WL_do0 rfl rfl (D_store (vs := [_, _]) rfl Try.sizeOf54 rfl rfl rfl rfl rfl (plY) (by exact Nat.le_of_ble_eq_true rfl)) ?_
        rintro _ _ rfl
        refine WL_val rfl rfl rfl (R_assign rfl rfl) ?_
        refine WL_nil ?_
        refine WQ_code ?_
        refine WC_seq ?_
        refine WC_drawBR [⟨some b3, _⟩] [(0, .q), (1, .q), (2, .q), (4, .q), (5, .q), (6, .q), (3, .n [7]), (7, .b []), (8, .n []), (9, .q), (10, .n []), (11, .q)] followsMixed rfl rfl (by kernel_rfl) (pqY) ?_
        refine WB_val rfl rfl rfl rfl (R_loadA (vs := [_, _]) rfl ag54 rfl (mmY) rfl (atZ)) ?_
        refine WB_val rfl rfl rfl rfl (R_fieldAddr rfl fa57_1 rfl) ?_
        refine WB_val rfl rfl rfl rfl (R_load rfl sc55 rfl (mmY) rfl) ?_
        refine WB_val rfl rfl rfl rfl (R_move rfl rfl) ?_
        refine WB_val rfl rfl rfl rfl (R_loadA (vs := [_, _]) rfl ag25 rfl (mmY) rfl (atZ)) ?_
        refine WB_val rfl rfl rfl rfl (R_build rfl zv100 pl100 rfl rfl) ?_
        refine WB_none 100 ?_
        refine WB_do rfl rfl rfl rfl (.cons rfl rfl (B_buildSlice rfl si55 rfl rfl rfl) .nil) (fun _ => D_appendO rfl si55 rfl (Own.empty 3) (plY) rfl hr.ow (mmY) (encWt_one _) (by omega) (by omega)) ?_
        rintro _ _ ⟨ow1, wc1, tw1, rfl, oww1, rfl⟩
        refine ⟨⟨_, pqY⟩, ?_⟩
        rw [Nat.zero_add, List.nil_append] at oww1 ⊢
        refine WB_birth rfl rfl rfl rfl .nil (B_buildSlice rfl si55 rfl rfl rfl) (fun b5 => ?_)
        refine WB_do rfl rfl rfl rfl .nil (fun _ => D_append rfl si55 rfl (oww1) (plY) rfl (mmY) ((atZ : At _ 0 [_, _, _])) (rfl) (rfl) (by omega) (by omega)) ?_
        rintro _ _ ⟨ob6, cap6, tl6, rfl, own6, rfl⟩
        refine ⟨⟨_, pqY⟩, ?_⟩
        rw [show s.W.flatMap encWt ++ [Value.int .i64 (j : Int), .int .i64 a.1, .int .i64 a.2] = (s.W ++ [(⟨j, a⟩ : Wt)]).flatMap encWt from by rw [List.flatMap_append]; rfl, show s.W.length + 1 = (s.W ++ [(⟨j, a⟩ : Wt)]).length from by rw [List.length_append]; rfl] at *
        refine WB_val rfl rfl rfl rfl (R_build rfl zv57 pl57 rfl rfl) ?_
        refine WB_do0 rfl rfl rfl .nil (fun _ => D_store (vs := [_, _, _]) rfl Try.sizeOf57 rfl rfl rfl rfl rfl (plY) (by exact Nat.le_of_ble_eq_true rfl)) ?_
        rintro _ _ rfl
        refine ⟨⟨_, pqY⟩, ?_⟩
        refine WB_val rfl rfl rfl rfl (R_assign rfl rfl) ?_
        refine WB_nil ?_
        refine WQ_code ?_
        refine WC_ret ?_
        refine WQ_ret rfl rfl (.cons (.cell (vs := [_, _, _]) rfl ag57 (mmY) rfl (atZ)) (.cons (.tmp rfl) .nil)) rfl (by
            rw [e8, e9]
            exact ⟨⟨os', sc', ts', oq', qc', tq', ob6, cap6, tl6⟩, rfl, rfl, hos', hoq', own6⟩) (pqY)
theorem rf_leave (s : PS) (r : RfM) (hr : RfOk s r) (hs : s.sm.length ≤ 64) (hroom : s.qm.length + s.W.length ≤ 64) (hp : PsOk s) (i : Int) : Spec Try.prog 50 [rfV s r, .int .i64 i] (rfH s r) (fun v H' => ∃ r' : RfM, v = .tuple #[rfV (s.leave i) r', ekS (s.whr i).1, .int .i64 (s.whr i).2] ∧ H' = rfH (s.leave i) r' ∧ RfOk (s.leave i) r') := by
  refine Spec.of (E := [(0, rfV s r), (1, .int .i64 i)]) Try.func50 rfl (by kernel_rfl) Try.ntmps50 rfl rfl (fun w => ?_)
  refine WC_seq ?_
  refine WC_region ?_
  refine WL_do rfl rfl rfl (D_box (cs := [_, _, _]) rfl rfl rfl) ?_
  rintro _ _ ⟨b1, rfl, rfl⟩
  refine WL_do rfl rfl rfl (D_alloc rfl zv57) ?_
  rintro _ _ ⟨b2, rfl, rfl⟩
  refine WL_do rfl rfl rfl (D_alloc rfl zv25) ?_
  rintro _ _ ⟨b3, rfl, rfl⟩
  refine WL_val rfl rfl rfl (R_assign rfl rfl) ?_
  refine WL_nil ?_
  refine WQ_code ?_
  refine WC_seq ?_
  refine WC_region ?_
  refine WL_val rfl rfl rfl (R_loadA (vs := [_, _, _]) rfl ag57 rfl (mmY) rfl (atZ)) ?_
  refine WL_val rfl rfl rfl (R_move rfl rfl) ?_
  refine WL_do rfl rfl rfl (D_call (rf_where s r hr hs hroom hp i) rfl rfl rfl rfl (pqY)) ?_
  rintro _ _ ⟨_, ⟨rfl, rfl⟩, rfl⟩
  refine WL_val rfl rfl rfl (R_move rfl rfl) ?_
  refine WL_val rfl rfl rfl (R_extract rfl rfl rfl) ?_
  refine WL_val rfl rfl rfl (R_extract rfl rfl rfl) ?_
  refine WL_do rfl rfl rfl (D_alloc rfl zv25) ?_
  rintro _ _ ⟨b4, rfl, rfl⟩
  refine WL_do0 rfl rfl (D_store (vs := [_, _]) rfl Try.sizeOf25 rfl rfl rfl rfl rfl (plY) (by exact Nat.le_of_ble_eq_true rfl)) ?_
  rintro _ _ rfl
  refine WL_val rfl rfl rfl (R_assign rfl rfl) ?_
  refine WL_nil ?_
  refine WQ_code ?_
  refine WC_seq ?_
  refine WC_seq ?_
  refine WC_region ?_
  refine WL_val rfl rfl rfl (R_move rfl rfl) ?_
  refine WL_val rfl rfl rfl (R_neq rfl rfl rfl) ?_
  refine WL_nil ?_
  refine WQ_code ?_
  refine WC_dec rfl (fun c1 => ?_) (fun c1 => ?_)
  · have e9 := leave_no s c1
    have e8 := whr_zero s c1
    refine WC_seq ?_
    refine WC_region ?_
    refine WL_val rfl rfl rfl (R_loadA (vs := [_, _, _]) rfl ag57 rfl (mmY) rfl (atZ)) ?_
    refine WL_val rfl rfl rfl (R_build rfl zv25 pl25 rfl rfl) ?_
    refine WL_val rfl rfl rfl (R_move rfl rfl) ?_
    refine WL_do0 rfl rfl (D_store (vs := [_, _, _]) rfl Try.sizeOf57 rfl rfl rfl rfl rfl (plY) (by exact Nat.le_of_ble_eq_true rfl)) ?_
    rintro _ _ rfl
    refine WL_do0 rfl rfl (D_store (vs := [_, _]) rfl Try.sizeOf25 rfl rfl rfl rfl rfl (plY) (by exact Nat.le_of_ble_eq_true rfl)) ?_
    rintro _ _ rfl
    refine WL_val rfl rfl rfl (R_assign rfl rfl) ?_
    refine WL_nil ?_
    refine WQ_code ?_
    refine WC_ret ?_
    refine WQ_ret rfl rfl (.cons (.cell (vs := [_, _, _]) rfl ag57 (mmY) rfl (atZ)) (.cons (.cell (vs := [_, _]) rfl ag25 (mmY) rfl (atZ)) (.cons (.tmp rfl) .nil))) rfl (by
        rw [e9, e8]
        exact ⟨r, rfl, rfl, hr⟩) (pqY)
  · have h9 : (s.whr i).2 = 0 := Decidable.not_not.1 c1
    obtain ⟨z0, hz0, rfl, e8⟩ := whr_some hp h9
    have e9 := leave_yes s h9
    have e7 : (s.out z0.i).W = wOut s.W z0.i := rfl
    refine WC_skip ?_
    refine WQ_code ?_
    refine WC_seq ?_
    refine WC_region ?_
    refine WL_val rfl rfl rfl (R_fieldAddr rfl fa57_0 rfl) ?_
    refine WL_val rfl rfl rfl (R_loadA (vs := [_, _]) rfl ag54 rfl (mmY) rfl (atZ)) ?_
    refine WL_val rfl rfl rfl (R_move rfl rfl) ?_
    refine WL_do rfl rfl rfl (D_call (rwake_ok s.sm s.qm r.os r.sc r.ts r.oq r.qc r.tq hr.os hr.oq hs (by omega) (z0.i : Int)) rfl rfl rfl rfl (pqY)) ?_
    rintro _ _ ⟨_, ⟨V', rfl, os', sc', ts', oq', qc', tq', rfl, hos', hoq', rfl⟩, rfl⟩
    refine WL_val rfl rfl rfl (R_move rfl rfl) ?_
    refine WL_val rfl rfl rfl (R_extract rfl rfl rfl) ?_
    refine WL_val rfl rfl rfl (R_extract rfl rfl rfl) ?_
    refine WL_do rfl rfl rfl (D_alloc rfl zv54) ?_
    rintro _ _ ⟨b5, rfl, rfl⟩
    refine WL_do0 rfl rfl (D_store (vs := [_, _]) rfl Try.sizeOf54 rfl rfl rfl rfl rfl (plY) (by exact Nat.le_of_ble_eq_true rfl)) ?_
    rintro _ _ rfl
    refine WL_val rfl rfl rfl (R_assign rfl rfl) ?_
    refine WL_nil ?_
    refine WQ_code ?_
    refine WC_seq ?_
    refine WC_region ?_
    refine WL_val rfl rfl rfl (R_loadA (vs := [_, _]) rfl ag54 rfl (mmY) rfl (atZ)) ?_
    refine WL_val rfl rfl rfl (R_build rfl zv57 pl57 rfl rfl) ?_
    refine WL_do rfl rfl rfl (D_alloc rfl zv57) ?_
    rintro _ _ ⟨b6, rfl, rfl⟩
    refine WL_do0 rfl rfl (D_store (vs := [_, _, _]) rfl Try.sizeOf57 rfl rfl rfl rfl rfl (plY) (by exact Nat.le_of_ble_eq_true rfl)) ?_
    rintro _ _ rfl
    refine WL_nil ?_
    refine WQ_code ?_
    refine WC_seq ?_
    refine WC_seq ?_
    refine WC_region ?_
    refine WL_val rfl rfl rfl (R_assign rfl rfl) ?_
    refine WL_nil ?_
    refine WQ_code ?_
    refine WC_block ?_
    refine WC_none 100 ?_
    refine WC_loopF (G := RnW) [12, 33, 34, 35, 36, 37, 38, 39, 40, 41, 42, 43, 44, 45, 46, 47, 48, 49, 50, 51, 52, 53, 54, 55, 56, 57] (fun y => y.j ≤ s.W.length ∧ y.l = wOut (s.W.take y.j) (z0.i : Int) ∧ Own y.o y.l.length y.c 3 (y.l.flatMap encWt) y.t) (fun y => [(12, .int .i64 (y.j : Int))]) (fun y => [⟨some b6, cl [slV os' (stepR s.sm s.qm 2 1 (z0.i : Int)).2.1.length sc', slV oq' (stepR s.sm s.qm 2 1 (z0.i : Int)).2.2.length qc', slV y.o y.l.length y.c] 57⟩, ⟨y.o, cl (y.l.flatMap encWt ++ y.t) 100⟩]) (fun y => s.W.length - y.j) (⟨0, [], none, 0, []⟩) (⟨Nat.zero_le _, rfl, Own.empty 3⟩) leZ (pqY) ?_
    rintro y ⟨hj, hyl, hyo⟩
    have hyn : y.l.length ≤ 64 := by rw [hyl]; exact Nat.le_trans (List.length_filter_le _ _) (by rw [List.length_take]; omega)
    refine WC_seq ?_
    refine WC_seq ?_
    refine WC_region ?_
    refine WL_val rfl rfl rfl (R_move rfl rfl) ?_
    refine WL_val rfl rfl rfl (R_fieldAddr rfl fa57_1 rfl) ?_
    refine WL_val rfl rfl rfl (R_load rfl sc55 rfl (mmY) rfl) ?_
    refine WL_val rfl rfl rfl (R_len rfl Try.underlying55 rfl) ?_
    refine WL_val rfl rfl rfl (R_lss rfl rfl rfl) ?_
    refine WL_nil ?_
    refine WQ_code ?_
    refine WC_dec rfl (fun c2 => ?_) (fun c2 => ?_)
    · refine WC_skip ?_
      refine WQ_code ?_
      refine WC_seq ?_
      refine WC_block ?_
      refine WC_seq ?_
      refine WC_region ?_
      obtain ⟨z, hx⟩ := exE (T := s.W) (i := y.j) (by omega)
      obtain ⟨wb, hwb⟩ := hr.ow.some_of (by omega)
      refine WL_val rfl rfl rfl (R_fieldAddr rfl fa57_1 rfl) ?_
      refine WL_val rfl rfl rfl (R_load rfl sc55 rfl (mmY) rfl) ?_
      refine WL_val rfl rfl rfl (R_move rfl rfl) ?_
      refine WL_val rfl rfl rfl (R_idxO hwb rfl Try.underlying55 Try.sizeOf100 rfl rfl (by omega)) ?_
      refine WL_val rfl rfl rfl (R_fieldAddr rfl fa100_0 rfl) ?_
      refine WL_val rfl rfl rfl (R_loadO (v := .int .i64 (z.i : Int)) hwb rfl sc3 rfl (mmY) (fm_get0 encWt3 hx (j := 0) (by omega))) ?_
      refine WL_val rfl rfl rfl (R_move rfl rfl) ?_
      refine WL_val rfl rfl rfl (R_neq rfl rfl rfl) ?_
      refine WL_nil ?_
      refine WQ_code ?_
      refine WC_dec rfl (fun c3 => ?_) (fun c3 => ?_)
      · have hne : (z.i : Int) ≠ (z0.i : Int) := c3
        refine WC_drawBR [⟨some b6, _⟩, ⟨(y.o), _⟩] [(0, .q), (2, .q), (3, .q), (4, .q), (5, .q), (6, .q), (1, .n [7]), (7, .b []), (8, .n []), (9, .q), (10, .n [])] followsMixed rfl rfl (by kernel_rfl) (pqY) ?_
        refine WB_val rfl rfl rfl rfl (R_fieldAddr rfl fa57_1 rfl) ?_
        refine WB_val rfl rfl rfl rfl (R_fieldAddr rfl fa57_1 rfl) ?_
        refine WB_val rfl rfl rfl rfl (R_load rfl sc55 rfl (mmY) rfl) ?_
        refine WB_val rfl rfl rfl rfl (R_move rfl rfl) ?_
        refine WB_val rfl rfl rfl rfl (R_idxO hwb rfl Try.underlying55 Try.sizeOf100 rfl rfl (by omega)) ?_
        refine WB_val rfl rfl rfl rfl (R_loadAO (vs := encWt z) hwb rfl ag100 rfl (mmY) rfl (fm_at0 encWt3 hx (j := 0) (vs := encWt z) (fun j v h => by rw [Nat.zero_add]; exact h) (Nat.le_refl 3))) ?_
        refine WB_do rfl rfl rfl rfl (.cons rfl rfl (B_buildSlice rfl si55 rfl rfl rfl) .nil) (fun _ => Runs.does (R_load rfl sc55 rfl (mmY) rfl)) ?_
        rintro _ _ ⟨rfl, rfl⟩
        refine ⟨⟨_, pqY⟩, ?_⟩
        refine WB_birth rfl rfl rfl rfl .nil (B_buildSlice rfl si55 rfl rfl rfl) (fun b7 => ?_)
        refine WB_do rfl rfl rfl rfl .nil (fun _ => D_append rfl si55 rfl (hyo) (plY) rfl (mmY) ((atZ : At _ 0 [_, _, _])) (rfl) (rfl) (by omega) (by omega)) ?_
        rintro _ _ ⟨ob8, cap8, tl8, rfl, own8, rfl⟩
        refine ⟨⟨_, pqY⟩, ?_⟩
        rw [show y.l.flatMap encWt ++ [Value.int .i64 (z.i : Int), .int .i64 z.at_.1, .int .i64 z.at_.2] = (y.l ++ [z]).flatMap encWt from by rw [List.flatMap_append]; rfl, show y.l.length + 1 = (y.l ++ [z]).length from by rw [List.length_append]; rfl] at *
        refine WB_val rfl rfl rfl rfl (R_fieldAddr rfl fa57_1 rfl) ?_
        refine WB_do0 rfl rfl rfl .nil (fun _ => D_store (vs := [_]) rfl Try.sizeOf55 rfl rfl rfl rfl rfl (plY) (by exact Nat.le_of_ble_eq_true rfl)) ?_
        rintro _ _ rfl
        refine ⟨⟨_, pqY⟩, ?_⟩
        refine WB_nil ?_
        refine WQ_code ?_
        refine WC_region ?_
        refine WL_val rfl rfl rfl (R_move rfl rfl) ?_
        refine WL_val rfl rfl rfl (R_add rfl rfl rfl (by omega)) ?_
        refine WL_val rfl rfl rfl (R_assign rfl rfl) ?_
        refine WL_nil ?_
        refine WQ_nextF (⟨y.j + 1, y.l ++ [z], ob8, cap8, tl8⟩) (⟨by dsimp only; omega, by dsimp only; rw [tkW hx, wOut_next, if_pos hne, ← hyl], own8⟩) (by dsimp only; omega) leZ (psZ) rfl (pqY)
      · have hne : ¬ (z.i : Int) ≠ (z0.i : Int) := c3
        refine WC_skip ?_
        refine WQ_code ?_
        refine WC_region ?_
        refine WL_val rfl rfl rfl (R_move rfl rfl) ?_
        refine WL_val rfl rfl rfl (R_add rfl rfl rfl (by omega)) ?_
        refine WL_val rfl rfl rfl (R_assign rfl rfl) ?_
        refine WL_nil ?_
        refine WQ_nextF (⟨y.j + 1, y.l, y.o, y.c, y.t⟩) (⟨by dsimp only; omega, by dsimp only; rw [tkW hx, wOut_next, if_neg hne, ← hyl, List.append_nil], hyo⟩) (by dsimp only; omega) leZ (psZ) rfl (pqY)
    · have hfin : y.l = wOut s.W (z0.i : Int) := by rw [hyl, List.take_of_length_le (by omega)]
      refine WC_exit ?_
      refine WQ_code ?_
      refine WC_seq ?_
      refine WC_drawR [⟨some b2, _⟩, ⟨some b3, _⟩] [(0, true), (1, true), (2, false), (3, false), (4, true)] followsMixed rfl rfl (by kernel_rfl) (pqY) ?_
      refine WM_val rfl rfl rfl rfl (R_loadA (vs := [_, _, _]) rfl ag57 rfl (mmY) rfl (atZ)) ?_
      refine WM_val rfl rfl rfl rfl (R_loadA (vs := [_, _]) rfl ag25 rfl (mmY) rfl (atZ)) ?_
      refine WM_do0 rfl rfl rfl (D_store (vs := [_, _, _]) rfl Try.sizeOf57 rfl rfl rfl rfl rfl (plY) (by exact Nat.le_of_ble_eq_true rfl)) ?_
      rintro _ _ rfl
      refine ⟨⟨_, pqY⟩, ?_⟩
      refine WM_do0 rfl rfl rfl (D_store (vs := [_, _]) rfl Try.sizeOf25 rfl rfl rfl rfl rfl (plY) (by exact Nat.le_of_ble_eq_true rfl)) ?_
      rintro _ _ rfl
      refine ⟨⟨_, pqY⟩, ?_⟩
      refine WM_val rfl rfl rfl rfl (R_assign rfl rfl) ?_
      refine WM_nil ?_
      refine WQ_code ?_
      refine WC_ret ?_
      rw [hfin]
      rw [hfin] at hyo
      refine WQ_ret rfl rfl (.cons (.cell (vs := [_, _, _]) rfl ag57 (mmY) rfl (atZ)) (.cons (.cell (vs := [_, _]) rfl ag25 (mmY) rfl (atZ)) (.cons (.tmp rfl) .nil))) rfl (by
          rw [e9]
          exact ⟨⟨os', sc', ts', oq', qc', tq', y.o, y.c, y.t⟩, by rw [h9]; rfl, rfl, hos', hoq', hyo⟩) (pqY)

end Go.Proofs.Ytljmeemgjbcgeaa
