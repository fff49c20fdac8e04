/-
 Chapter 11 (poller), part RpB: contracts of functions that the laws call, each for the heap it names.
-/
import Derived.Test.YtbkdebnkoidicaaGreatY05
import Derived.Test.YtbkdebnkoidicaaGreatRows
section
set_option linter.unusedVariables false
set_option maxRecDepth 20000
set_option maxHeartbeats 2000000
namespace Go.Proofs.YtbkdebnkoidicaaGreat
theorem rf_where (s : PS) (r : RfM) (hr : RfOk s r) (hs : s.sm.length ≤ 64) (hroom : s.qm.length + s.W.length ≤ 64) (hp : PsOk s) (i : Int) : Spec Tryz.prog 137 [rfV s r, .int .i64 i] (rfH s r) (fun v H' => v = .tuple #[ekS (s.whr i).1, .int .i64 (s.whr i).2] ∧ H' = rfH s r) := by
 refine Spec.of (E := [(0, rfV s r), (1, .int .i64 i)]) Tryz.func137 rfl (by kernel_rfl) Tryz.ntmps137 rfl rfl (fun w => ?_)
 refine WC_seq (WC_region ?_)
 refine WL_do rfl rfl rfl (D_box (cs := [_, _, _]) rfl rfl rfl) ?_
 rintro _ _ ⟨b1, rfl, rfl⟩
 refine WL_do rfl rfl rfl (D_alloc rfl zv108) ?_
 rintro _ _ ⟨b2, rfl, rfl⟩
 refine WLa rfl (WL_nil (WQ_code (WC_seq (WC_seq (WC_region ?_)))))
 refine WL_val rfl rfl rfl (R_fieldAddr rfl fa79_0 rfl) ?_
 refine WL_val rfl rfl rfl (R_loadA (vs := [_, _]) rfl ag76 rfl (mmY) rfl (atZ)) ?_
 refine WLa rfl ?_
 refine WL_do rfl rfl rfl (D_call (rstate_ok s.sm s.qm r.os r.sc r.ts r.oq r.qc r.tq hr.os hr.oq i) rfl rfl rfl rfl (pqY)) ?_
 rintro _ _ ⟨_, ⟨rfl, rfl⟩, rfl⟩
 refine WLa rfl (WLa rfl (WLa rfl (WLa rfl (WLa rfl (WL_nil (WQ_code (WC_seq (WC_region (WLa rfl ?_)))))))))
 refine WL_val rfl rfl rfl (R_neq rfl rfl rfl) ?_
 refine WL_nil (WQ_code ?_)
 refine WC_dec rfl (fun c1 => ?_) (fun c1 => ?_)
 ·have e9 : s.whr i = ((0, 0), (stR s.sm i).2) := by unfold PS.whr; rw [if_pos c1]
  refine WC_seq (WC_region ?_)
  refine WL_val rfl rfl rfl (R_build rfl zv108 pl108 rfl rfl) ?_
  refine WLa rfl ?_
  refine WL_do0 rfl rfl (D_store (vs := [_, _]) rfl Tryz.sizeOf108 rfl rfl rfl rfl rfl (plY) (Nat.le_of_ble_eq_true rfl)) ?_
  rintro _ _ rfl
  refine WLa rfl (WL_nil (WQ_code (WC_ret ?_)))
  refine WQ_ret rfl rfl (.cons (.cell (vs := [_, _]) rfl ag108 (mmY) rfl (atZ)) (.cons (.tmp rfl) .nil)) rfl (by
    exact ⟨by rw [e9]; rfl, rfl⟩) (pqY)
 ·have h0 : (stR s.sm i).2 = 0 := Decidable.not_not.1 c1
  refine WC_skip (WQ_code (WC_seq (WC_seq (WC_region (WLa rfl (WL_nil (WQ_code (WC_block ?_))))))))
  refine WC_loopF (G := Nat) [5, 8, 20, 21, 22, 23, 24, 25, 26, 27, 28, 29, 30, 31, 32, 33, 34, 35, 36, 37, 38, 39, 40] (fun j => j ≤ s.W.length ∧ ∀ (k : Nat) (z : Wt), k < j → s.W[k]? = some z → (z.i : Int) ≠ i) (fun j => [(8, .int .i64 (j : Int))]) (fun j => []) (fun j => s.W.length - j) (0) (⟨Nat.zero_le _, fun k z h => absurd h (Nat.not_lt_zero k)⟩) leZ (pqY) ?_
  rintro j ⟨hj, hno⟩
  refine WC_seq (WC_seq (WC_region (WLa rfl ?_)))
  refine WL_val rfl rfl rfl (R_fieldAddr rfl fa79_1 rfl) ?_
  refine WL_val rfl rfl rfl (R_load rfl sc77 rfl (mmY) rfl) ?_
  refine WL_val rfl rfl rfl (R_len rfl Tryz.underlying77 rfl) ?_
  refine WL_val rfl rfl rfl (R_lss rfl rfl rfl) ?_
  refine WL_nil (WQ_code ?_)
  refine WC_dec rfl (fun c2 => ?_) (fun c2 => ?_)
  ·refine WC_skip (WQ_code (WC_seq (WC_block (WC_seq (WC_region ?_)))))
   obtain ⟨z, hx⟩ := exE (T := s.W) (i := j) (by omega)
   obtain ⟨wb, hwb⟩ := hr.ow.some_of (by omega)
   refine WL_val rfl rfl rfl (R_fieldAddr rfl fa79_1 rfl) ?_
   refine WL_val rfl rfl rfl (R_load rfl sc77 rfl (mmY) rfl) ?_
   refine WLa rfl ?_
   refine WL_val rfl rfl rfl (R_idxO hwb rfl Tryz.underlying77 Tryz.sizeOf278 rfl rfl (by omega)) ?_
   refine WL_val rfl rfl rfl (R_fieldAddr rfl fa278_0 rfl) ?_
   refine WL_val rfl rfl rfl (R_loadO (v := .int .i64 (z.i : Int)) hwb rfl sc3 rfl (mmY) (fm_get0 encWt3 hx (j := 0) (by omega))) ?_
   refine WLa rfl ?_
   refine WL_val rfl rfl rfl (R_eql rfl rfl rfl) ?_
   refine WL_nil (WQ_code ?_)
   refine WC_dec rfl (fun c3 => ?_) (fun c3 => ?_)
   ·obtain rfl : i = (z.i : Int) := by omega
    have e9 := hp.whr_yes (List.mem_of_getElem? hx)
    refine WC_seq (WC_region ?_)
    refine WL_val rfl rfl rfl (R_fieldAddr rfl fa79_1 rfl) ?_
    refine WL_val rfl rfl rfl (R_load rfl sc77 rfl (mmY) rfl) ?_
    refine WLa rfl ?_
    refine WL_val rfl rfl rfl (R_idxO hwb rfl Tryz.underlying77 Tryz.sizeOf278 rfl rfl (by omega)) ?_
    refine WL_val rfl rfl rfl (R_fieldAddr rfl fa278_1 rfl) ?_
    refine WL_val rfl rfl rfl (R_loadAO (vs := [.int .i64 z.at_.1, .int .i64 z.at_.2]) hwb rfl ag108 rfl (mmY) rfl (fm_at0 encWt3 hx (j := 1) (vs := [.int .i64 z.at_.1, .int .i64 z.at_.2]) (atZ) (by simp))) ?_
    refine WL_do0 rfl rfl (D_store (vs := [_, _]) rfl Tryz.sizeOf108 rfl rfl rfl rfl rfl (plY) (Nat.le_of_ble_eq_true rfl)) ?_
    rintro _ _ rfl
    refine WLa rfl (WL_nil (WQ_code (WC_ret ?_)))
    refine WQ_ret rfl rfl (.cons (.cell (vs := [_, _]) rfl ag108 (mmY) rfl (atZ)) (.cons (.tmp rfl) .nil)) rfl (by
      exact ⟨by rw [e9]; rfl, rfl⟩) (pqY)
   ·refine WC_skip (WQ_code (WC_region (WLa rfl ?_)))
    refine WL_val rfl rfl rfl (R_add rfl rfl rfl (by omega)) ?_
    refine WLa rfl (WL_nil ?_)
    refine WQ_nextF (j + 1) (⟨by omega, fun k u hk hu => by by_cases e : k = j; (subst e; rw [hx] at hu; obtain rfl := Option.some.inj hu; omega); (exact hno k u (by omega) hu)⟩) (by omega) leZ (psZ) rfl (pqY)
  ·have e9 : s.whr i = ((0, 0), 8) := whr_miss h0 fun z hz => by obtain ⟨k, hk⟩ := List.getElem?_of_mem hz; exact hno k z (by have := (List.getElem?_eq_some_iff.1 hk).1; omega) hk
   refine WC_exit (WQ_code (WC_seq (WC_region ?_)))
   refine WL_val rfl rfl rfl (R_build rfl zv108 pl108 rfl rfl) ?_
   refine WL_do0 rfl rfl (D_store (vs := [_, _]) rfl Tryz.sizeOf108 rfl rfl rfl rfl rfl (plY) (Nat.le_of_ble_eq_true rfl)) ?_
   rintro _ _ rfl
   refine WLa rfl (WL_nil (WQ_code (WC_ret ?_)))
   refine WQ_ret rfl rfl (.cons (.cell (vs := [_, _]) rfl ag108 (mmY) rfl (atZ)) (.cons (.tmp rfl) .nil)) rfl (by
     exact ⟨by rw [e9]; rfl, rfl⟩) (pqY)
theorem rf_waiting (s : PS) (r : RfM) (hr : RfOk s r) (hs : s.sm.length ≤ 64) (hroom : s.qm.length + s.W.length ≤ 64) (a : Sp) : Spec Tryz.prog 170 [rfV s r, ekS a] (rfH s r) (fun v H' => ∃ ob c' tl', v = .tuple #[slV ob (s.waiting a).length c', .int .i64 (spE a)] ∧ Own ob (s.waiting a).length c' 1 (ivs (s.waiting a)) tl' ∧ H' = ⟨ob, cl (ivs (s.waiting a) ++ tl') 3⟩ :: rfH s r) := by
 refine Spec.of (E := [(0, rfV s r), (1, ekS a)]) Tryz.func170 rfl (by kernel_rfl) Tryz.ntmps170 rfl rfl (fun w => ?_)
 refine WC_seq (WC_region ?_)
 refine WL_do rfl rfl rfl (D_box (cs := [_, _, _]) rfl rfl rfl) ?_
 rintro _ _ ⟨b1, rfl, rfl⟩
 refine WL_do rfl rfl rfl (D_box (cs := [_, _]) rfl rfl rfl) ?_
 rintro _ _ ⟨b2, rfl, rfl⟩
 refine WLa rfl (WLa rfl (WL_nil (WQ_code (WC_seq (WC_seq (WC_region ?_))))))
 refine WL_val rfl rfl rfl (R_loadA (vs := [_, _]) rfl ag108 rfl (mmY) rfl (atZ)) ?_
 refine WL_do rfl rfl rfl (D_call (rspot_ok a) rfl rfl rfl rfl (pqY)) ?_
 rintro _ _ ⟨_, ⟨rfl, rfl⟩, rfl⟩
 refine WL_val rfl rfl rfl (R_notD rfl rfl) ?_
 refine WL_nil (WQ_code ?_)
 refine WC_dec rfl (fun c1 => ?_) (fun c1 => ?_)
 ·have hv : ¬ vldS a := c1
  have hw0 : s.waiting a = [] := if_neg hv
  have hsp : spE a = 2 := if_neg hv
  rw [hw0, hsp]
  refine WC_seq (WC_region (WLa rfl (WLa rfl (WL_nil (WQ_code (WC_ret ?_))))))
  refine WQ_none 3 ?_
  refine WQ_ret rfl rfl (.cons (.tmp rfl) (.cons (.tmp rfl) .nil)) rfl (by
    exact ⟨none, 0, [], rfl, Own.empty 1, rfl⟩) (pqY)
 ·have hv : vldS a := Decidable.not_not.1 c1
  have hw0 : s.waiting a = wAt s.W a := if_pos hv
  have hsp : spE a = 0 := if_pos hv
  rw [hw0, hsp]
  refine WC_skip (WQ_code (WC_seq (WC_region (WLa rfl (WL_nil (WQ_code (WC_seq (WC_seq (WC_region (WLa rfl (WL_nil (WQ_code (WC_block ?_)))))))))))))
  refine WC_none 3 ?_
  refine WC_loopF (G := RiW) [6, 7, 11, 12, 13, 14, 15, 16, 17, 18, 19, 20, 21, 22, 23, 24, 25, 26, 27, 28, 29, 30, 31, 32, 33, 34] (fun y => y.j ≤ s.W.length ∧ y.l = wAt (s.W.take y.j) a ∧ y.l.length ≤ y.j ∧ Own y.o y.l.length y.c 1 (ivs y.l) y.t) (fun y => [(7, .int .i64 (y.j : Int)), (6, slV y.o y.l.length y.c)]) (fun y => [⟨y.o, cl (ivs y.l ++ y.t) 3⟩]) (fun y => s.W.length - y.j) (⟨0, [], none, 0, []⟩) (⟨Nat.zero_le _, rfl, Nat.zero_le _, Own.empty 1⟩) leZ (pqY) ?_
  rintro y ⟨hj, hyl, hyn, hyo⟩
  refine WC_seq (WC_seq (WC_region (WLa rfl ?_)))
  refine WL_val rfl rfl rfl (R_fieldAddr rfl fa79_1 rfl) ?_
  refine WL_val rfl rfl rfl (R_load rfl sc77 rfl (mmY) rfl) ?_
  refine WL_val rfl rfl rfl (R_len rfl Tryz.underlying77 rfl) ?_
  refine WL_val rfl rfl rfl (R_lss rfl rfl rfl) ?_
  refine WL_nil (WQ_code ?_)
  refine WC_dec rfl (fun c2 => ?_) (fun c2 => ?_)
  ·refine WC_skip (WQ_code (WC_seq (WC_block (WC_seq ?_))))
   refine WC_draw _ [(0, true), (1, true), (2, true), (3, true), (4, true), (5, true), (6, true), (7, true)] followsMixed rfl rfl (by kernel_rfl) .all ?_
   obtain ⟨z, hx⟩ := exE (T := s.W) (i := y.j) (by omega)
   obtain ⟨wb, hwb⟩ := hr.ow.some_of (by omega)
   refine WM_val rfl rfl rfl rfl (R_fieldAddr rfl fa79_1 rfl) ?_
   refine WM_val rfl rfl rfl rfl (R_load rfl sc77 rfl (mmY) rfl) ?_
   refine WMa rfl ?_
   refine WM_val rfl rfl rfl rfl (R_idxO hwb rfl Tryz.underlying77 Tryz.sizeOf278 rfl rfl (by omega)) ?_
   refine WM_val rfl rfl rfl rfl (R_fieldAddr rfl fa278_1 rfl) ?_
   refine WM_val rfl rfl rfl rfl (R_loadAO (vs := [.int .i64 z.at_.1, .int .i64 z.at_.2]) hwb rfl ag108 rfl (mmY) rfl (fm_at0 encWt3 hx (j := 1) (vs := [.int .i64 z.at_.1, .int .i64 z.at_.2]) (atZ) (by simp))) ?_
   refine WM_val rfl rfl rfl rfl (R_loadA (vs := [_, _]) rfl ag108 rfl (mmY) rfl (atZ)) ?_
   refine WM_val rfl rfl rfl rfl (R_seq108 rfl rfl rfl rfl) ?_
   refine WM_nil (WQ_code ?_)
   refine WC_dec rfl (fun c3 => ?_) (fun c3 => ?_)
   ·have hza : z.at_ = a := Prod.ext c3.1 c3.2
    refine WC_region (WLa rfl ?_)
    refine WL_val rfl rfl rfl (R_fieldAddr rfl fa79_1 rfl) ?_
    refine WL_val rfl rfl rfl (R_load rfl sc77 rfl (mmY) rfl) ?_
    refine WLa rfl ?_
    refine WL_val rfl rfl rfl (R_idxO hwb rfl Tryz.underlying77 Tryz.sizeOf278 rfl rfl (by omega)) ?_
    refine WL_val rfl rfl rfl (R_fieldAddr rfl fa278_0 rfl) ?_
    refine WL_val rfl rfl rfl (R_loadO (v := .int .i64 (z.i : Int)) hwb rfl sc3 rfl (mmY) (fm_get0 encWt3 hx (j := 0) (by omega))) ?_
    refine WL_do rfl rfl rfl (D_buildSlice rfl si34 rfl rfl rfl) ?_
    rintro _ _ ⟨b3, rfl, rfl⟩
    refine WL_do rfl rfl rfl (D_append rfl si34 rfl (hyo) (plY) rfl (mmY) ((atZ : At _ 0 [_])) (rfl) (rfl) (by omega) (by omega)) ?_
    rintro _ _ ⟨ob4, cap4, tl4, rfl, own4, rfl⟩
    have hsn : ivs y.l ++ [Value.int .i64 (z.i : Int)] = ivs (y.l ++ [(z.i : Int)]) := by simp
    rw [hsn] at own4 ⊢
    refine WLa rfl (WL_nil (WQ_code (WC_region (WLa rfl ?_))))
    refine WL_val rfl rfl rfl (R_add rfl rfl rfl (by omega)) ?_
    refine WLa rfl (WL_nil ?_)
    rw [show y.l.length + 1 = (y.l ++ [(z.i : Int)]).length from by rw [List.length_append, List.length_singleton]]
    refine WQ_nextF (⟨y.j + 1, y.l ++ [(z.i : Int)], ob4, cap4, tl4⟩) (⟨by dsimp only; omega, by dsimp only; rw [tkW hx, wAt_next, if_pos hza, ← hyl], by dsimp only; rw [List.length_append, List.length_singleton]; omega, by dsimp only; rw [List.length_append, List.length_singleton]; exact own4⟩) (by dsimp only; omega) leZ (psZ) rfl (pqY)
   ·have hza : ¬ z.at_ = a := fun e => c3 (by rw [e]; exact ⟨rfl, rfl⟩)
    refine WC_skip (WQ_code (WC_region (WLa rfl ?_)))
    refine WL_val rfl rfl rfl (R_add rfl rfl rfl (by omega)) ?_
    refine WLa rfl (WL_nil ?_)
    refine WQ_nextF (⟨y.j + 1, y.l, y.o, y.c, y.t⟩) (⟨by dsimp only; omega, by dsimp only; rw [tkW hx, wAt_next, if_neg hza, ← hyl, List.append_nil], by dsimp only; omega, hyo⟩) (by dsimp only; omega) leZ (psZ) rfl (pqY)
  ·have hfin : y.l = wAt s.W a := by rw [hyl, List.take_of_length_le (by omega)]
   rw [hfin]
   rw [hfin] at hyo
   refine WC_exit (WQ_code (WC_seq (WC_region (WLa rfl (WLa rfl (WLa rfl (WL_nil (WQ_code (WC_ret ?_)))))))))
   refine WQ_ret rfl rfl (.cons (.tmp rfl) (.cons (.tmp rfl) .nil)) rfl (by
     exact ⟨y.o, y.c, y.t, rfl, hyo, rfl⟩) (pqY)
theorem rf_park (s : PS) (r : RfM) (hr : RfOk s r) (hs : s.sm.length ≤ 64) (hroom : s.qm.length + s.W.length ≤ 64) (hp : PsOk s) (i : Int) (a : Sp) : Spec Tryz.prog 128 [rfV s r, .int .i64 i, ekS a] (rfH s r) (fun v H' => ∃ r' : RfM, v = .tuple #[rfV (s.park i a) r', .int .i64 (s.parkE i a)] ∧ H' = rfH (s.park i a) r' ∧ RfOk (s.park i a) r') := by
 refine Spec.of (E := [(0, rfV s r), (1, .int .i64 i), (2, ekS a)]) Tryz.func128 rfl (by kernel_rfl) Tryz.ntmps128 rfl rfl (fun w => ?_)
 refine WC_seq (WC_region ?_)
 refine WL_do rfl rfl rfl (D_box (cs := [_, _, _]) rfl rfl rfl) ?_
 rintro _ _ ⟨b1, rfl, rfl⟩
 refine WL_do rfl rfl rfl (D_box (cs := [_, _]) rfl rfl rfl) ?_
 rintro _ _ ⟨b2, rfl, rfl⟩
 refine WL_do rfl rfl rfl (D_alloc rfl zv79) ?_
 rintro _ _ ⟨b3, rfl, rfl⟩
 refine WLa rfl (WL_nil (WQ_code (WC_seq (WC_region ?_))))
 refine WL_val rfl rfl rfl (R_fieldAddr rfl fa79_0 rfl) ?_
 refine WL_val rfl rfl rfl (R_loadA (vs := [_, _]) rfl ag76 rfl (mmY) rfl (atZ)) ?_
 refine WLa rfl ?_
 refine WL_do rfl rfl rfl (D_call (rstate_ok s.sm s.qm r.os r.sc r.ts r.oq r.qc r.tq hr.os hr.oq i) rfl rfl rfl rfl (pqY)) ?_
 rintro _ _ ⟨_, ⟨rfl, rfl⟩, rfl⟩
 refine WLa rfl (WLa rfl (WLa rfl (WLa rfl (WLa rfl (WL_nil (WQ_code (WC_seq (WC_seq (WC_region (WLa rfl ?_))))))))))
 refine WL_val rfl rfl rfl (R_neq rfl rfl rfl) ?_
 refine WL_nil (WQ_code ?_)
 refine WC_dec rfl (fun c1 => ?_) (fun c1 => ?_)
 ·have e9 : s.parkE i a = (stR s.sm i).2 := by unfold PS.parkE; rw [if_pos c1]
  have e8 := park_no s (i := i) (at_ := a) (by rw [e9]; exact c1)
  refine WC_seq (WC_region ?_)
  refine WL_val rfl rfl rfl (R_loadA (vs := [_, _, _]) rfl ag79 rfl (mmY) rfl (atZ)) ?_
  refine WLa rfl ?_
  refine WL_do0 rfl rfl (D_store (vs := [_, _, _]) rfl Tryz.sizeOf79 rfl rfl rfl rfl rfl (plY) (Nat.le_of_ble_eq_true rfl)) ?_
  rintro _ _ rfl
  refine WLa rfl (WL_nil (WQ_code (WC_ret ?_)))
  refine WQ_ret rfl rfl (.cons (.cell (vs := [_, _, _]) rfl ag79 (mmY) rfl (atZ)) (.cons (.tmp rfl) .nil)) rfl (by
    rw [e8, e9]
    exact ⟨r, rfl, rfl, hr⟩) (pqY)
 ·obtain ⟨j, x, rfl, hx1, hst⟩ := stR_some (show (stR s.sm i).2 = 0 from Decidable.not_not.1 c1)
  have h0 : (stR s.sm (j : Int)).2 = 0 := by rw [stR_in hx1]
  refine WC_skip (WQ_code (WC_seq (WC_seq (WC_region ?_))))
  refine WL_val rfl rfl rfl (R_loadA (vs := [_, _]) rfl ag108 rfl (mmY) rfl (atZ)) ?_
  refine WL_do rfl rfl rfl (D_call (rspot_ok a) rfl rfl rfl rfl (pqY)) ?_
  rintro _ _ ⟨_, ⟨rfl, rfl⟩, rfl⟩
  refine WL_val rfl rfl rfl (R_notD rfl rfl) ?_
  refine WL_nil (WQ_code ?_)
  refine WC_dec rfl (fun c2 => ?_) (fun c2 => ?_)
  ·have e9 : s.parkE (j : Int) a = 2 := by unfold PS.parkE; rw [if_neg (fun e => e h0), if_neg c2]
   have e8 := park_no s (i := (j : Int)) (at_ := a) (by rw [e9]; decide)
   refine WC_seq (WC_region ?_)
   refine WL_val rfl rfl rfl (R_loadA (vs := [_, _, _]) rfl ag79 rfl (mmY) rfl (atZ)) ?_
   refine WL_do0 rfl rfl (D_store (vs := [_, _, _]) rfl Tryz.sizeOf79 rfl rfl rfl rfl rfl (plY) (Nat.le_of_ble_eq_true rfl)) ?_
   rintro _ _ rfl
   refine WLa rfl (WL_nil (WQ_code (WC_ret ?_)))
   refine WQ_ret rfl rfl (.cons (.cell (vs := [_, _, _]) rfl ag79 (mmY) rfl (atZ)) (.cons (.tmp rfl) .nil)) rfl (by
     rw [e8, e9]
     exact ⟨r, rfl, rfl, hr⟩) (pqY)
  ·have hv9 : vldS a := Decidable.not_not.1 c2
   refine WC_skip (WQ_code (WC_seq (WC_seq (WC_region (WLa rfl ?_)))))
   refine WL_val rfl rfl rfl (R_neq rfl rfl rfl) ?_
   refine WL_nil (WQ_code ?_)
   refine WC_dec rfl (fun c3 => ?_) (fun c3 => ?_)
   ·have e9 : s.parkE (j : Int) a = 8 := by unfold PS.parkE; rw [if_neg (fun e => e h0), if_pos hv9, if_neg c3]
    have e8 := park_no s (i := (j : Int)) (at_ := a) (by rw [e9]; decide)
    refine WC_seq (WC_region ?_)
    refine WL_val rfl rfl rfl (R_loadA (vs := [_, _, _]) rfl ag79 rfl (mmY) rfl (atZ)) ?_
    refine WL_do0 rfl rfl (D_store (vs := [_, _, _]) rfl Tryz.sizeOf79 rfl rfl rfl rfl rfl (plY) (Nat.le_of_ble_eq_true rfl)) ?_
    rintro _ _ rfl
    refine WLa rfl (WL_nil (WQ_code (WC_ret ?_)))
    refine WQ_ret rfl rfl (.cons (.cell (vs := [_, _, _]) rfl ag79 (mmY) rfl (atZ)) (.cons (.tmp rfl) .nil)) rfl (by
      rw [e8, e9]
      exact ⟨r, rfl, rfl, hr⟩) (pqY)
   ·have hj1 : s.sm[j]? = some 1 := by rw [hx1]; congr 1; rw [← hst]; exact Decidable.not_not.1 c3
    obtain ⟨e9, e8⟩ := park_ok' hp hj1 hv9
    have hsr := stepR_ok (sm := s.sm) (qm := s.qm) (to := 2) hj1
    refine WC_skip (WQ_code (WC_seq (WC_region ?_)))
    refine WL_val rfl rfl rfl (R_fieldAddr rfl fa79_0 rfl) ?_
    refine WL_val rfl rfl rfl (R_loadA (vs := [_, _]) rfl ag76 rfl (mmY) rfl (atZ)) ?_
    refine WLa rfl ?_
    refine WL_do rfl rfl rfl (D_call (rpark_ok s.sm s.qm r.os r.sc r.ts r.oq r.qc r.tq hr.os hr.oq hs (by omega) (j : Int)) rfl rfl rfl rfl (pqY)) ?_
    rintro _ _ ⟨_, ⟨V', rfl, os', sc', ts', oq', qc', tq', rfl, hos', hoq', rfl⟩, rfl⟩
    refine WLa rfl (WLa rfl (WLa rfl ?_))
    refine WL_do rfl rfl rfl (D_alloc rfl zv76) ?_
    rintro _ _ ⟨b4, rfl, rfl⟩
    refine WL_do0 rfl rfl (D_store (vs := [_, _]) rfl Tryz.sizeOf76 rfl rfl rfl rfl rfl (plY) (Nat.le_of_ble_eq_true rfl)) ?_
    rintro _ _ rfl
    refine WLa rfl (WL_nil (WQ_code (WC_seq ?_)))
    refine WC_drawBR [⟨some b3, _⟩] [(0, .q), (1, .q), (2, .q), (4, .q), (5, .q), (6, .q), (3, .n [7]), (7, .b []), (8, .n []), (9, .q), (10, .n []), (11, .q)] followsMixed rfl rfl (by kernel_rfl) (pqY) ?_
    refine WB_val rfl rfl rfl rfl (R_loadA (vs := [_, _]) rfl ag76 rfl (mmY) rfl (atZ)) ?_
    refine WB_val rfl rfl rfl rfl (R_fieldAddr rfl fa79_1 rfl) ?_
    refine WB_val rfl rfl rfl rfl (R_load rfl sc77 rfl (mmY) rfl) ?_
    refine WB_val rfl rfl rfl rfl (R_move rfl rfl) ?_
    refine WB_val rfl rfl rfl rfl (R_loadA (vs := [_, _]) rfl ag108 rfl (mmY) rfl (atZ)) ?_
    refine WB_val rfl rfl rfl rfl (R_build rfl zv278 pl278 rfl rfl) ?_
    refine WB_none 278 ?_
    refine WB_do rfl rfl rfl rfl (.cons rfl rfl (B_buildSlice rfl si77 rfl rfl rfl) .nil) (fun _ => D_appendO rfl si77 rfl (Own.empty 3) (plY) rfl hr.ow (mmY) (encWt_one _) (by omega) (by omega)) ?_
    rintro _ _ ⟨ow1, wc1, tw1, rfl, oww1, rfl⟩
    refine ⟨⟨_, pqY⟩, ?_⟩
    rw [Nat.zero_add, List.nil_append] at oww1 ⊢
    refine WB_birth rfl rfl rfl rfl .nil (B_buildSlice rfl si77 rfl rfl rfl) (fun b5 => ?_)
    refine WB_do rfl rfl rfl rfl .nil (fun _ => D_append rfl si77 rfl (oww1) (plY) rfl (mmY) ((atZ : At _ 0 [_, _, _])) (rfl) (rfl) (by omega) (by omega)) ?_
    rintro _ _ ⟨ob6, cap6, tl6, rfl, own6, rfl⟩
    refine ⟨⟨_, pqY⟩, ?_⟩
    rw [show s.W.flatMap encWt ++ [Value.int .i64 (j : Int), .int .i64 a.1, .int .i64 a.2] = (s.W ++ [(⟨j, a⟩ : Wt)]).flatMap encWt from by rw [List.flatMap_append]; rfl, show s.W.length + 1 = (s.W ++ [(⟨j, a⟩ : Wt)]).length from by rw [List.length_append]; rfl] at *
    refine WB_val rfl rfl rfl rfl (R_build rfl zv79 pl79 rfl rfl) ?_
    refine WB_do0 rfl rfl rfl .nil (fun _ => D_store (vs := [_, _, _]) rfl Tryz.sizeOf79 rfl rfl rfl rfl rfl (plY) (Nat.le_of_ble_eq_true rfl)) ?_
    rintro _ _ rfl
    refine ⟨⟨_, pqY⟩, ?_⟩
    refine WB_val rfl rfl rfl rfl (R_assign rfl rfl) ?_
    refine WB_nil (WQ_code (WC_ret ?_))
    refine WQ_ret rfl rfl (.cons (.cell (vs := [_, _, _]) rfl ag79 (mmY) rfl (atZ)) (.cons (.tmp rfl) .nil)) rfl (by
      rw [e8, e9]
      exact ⟨⟨os', sc', ts', oq', qc', tq', ob6, cap6, tl6⟩, rfl, rfl, hos', hoq', own6⟩) (pqY)
theorem rf_leave (s : PS) (r : RfM) (hr : RfOk s r) (hs : s.sm.length ≤ 64) (hroom : s.qm.length + s.W.length ≤ 64) (hp : PsOk s) (i : Int) : Spec Tryz.prog 171 [rfV s r, .int .i64 i] (rfH s r) (fun v H' => ∃ r' : RfM, v = .tuple #[rfV (s.leave i) r', ekS (s.whr i).1, .int .i64 (s.whr i).2] ∧ H' = rfH (s.leave i) r' ∧ RfOk (s.leave i) r') := by
 refine Spec.of (E := [(0, rfV s r), (1, .int .i64 i)]) Tryz.func171 rfl (by kernel_rfl) Tryz.ntmps171 rfl rfl (fun w => ?_)
 refine WC_seq (WC_region ?_)
 refine WL_do rfl rfl rfl (D_box (cs := [_, _, _]) rfl rfl rfl) ?_
 rintro _ _ ⟨b1, rfl, rfl⟩
 refine WL_do rfl rfl rfl (D_alloc rfl zv79) ?_
 rintro _ _ ⟨b2, rfl, rfl⟩
 refine WL_do rfl rfl rfl (D_alloc rfl zv108) ?_
 rintro _ _ ⟨b3, rfl, rfl⟩
 refine WLa rfl (WL_nil (WQ_code (WC_seq (WC_region ?_))))
 refine WL_val rfl rfl rfl (R_loadA (vs := [_, _, _]) rfl ag79 rfl (mmY) rfl (atZ)) ?_
 refine WLa rfl ?_
 refine WL_do rfl rfl rfl (D_call (rf_where s r hr hs hroom hp i) rfl rfl rfl rfl (pqY)) ?_
 rintro _ _ ⟨_, ⟨rfl, rfl⟩, rfl⟩
 refine WLa rfl (WLa rfl (WLa rfl ?_))
 refine WL_do rfl rfl rfl (D_alloc rfl zv108) ?_
 rintro _ _ ⟨b4, rfl, rfl⟩
 refine WL_do0 rfl rfl (D_store (vs := [_, _]) rfl Tryz.sizeOf108 rfl rfl rfl rfl rfl (plY) (Nat.le_of_ble_eq_true rfl)) ?_
 rintro _ _ rfl
 refine WLa rfl (WL_nil (WQ_code (WC_seq (WC_seq (WC_region (WLa rfl ?_))))))
 refine WL_val rfl rfl rfl (R_neq rfl rfl rfl) ?_
 refine WL_nil (WQ_code ?_)
 refine WC_dec rfl (fun c1 => ?_) (fun c1 => ?_)
 ·have e9 := leave_no s c1
  have e8 := whr_zero s c1
  refine WC_seq (WC_region ?_)
  refine WL_val rfl rfl rfl (R_loadA (vs := [_, _, _]) rfl ag79 rfl (mmY) rfl (atZ)) ?_
  refine WL_val rfl rfl rfl (R_build rfl zv108 pl108 rfl rfl) ?_
  refine WLa rfl ?_
  refine WL_do0 rfl rfl (D_store (vs := [_, _, _]) rfl Tryz.sizeOf79 rfl rfl rfl rfl rfl (plY) (Nat.le_of_ble_eq_true rfl)) ?_
  rintro _ _ rfl
  refine WL_do0 rfl rfl (D_store (vs := [_, _]) rfl Tryz.sizeOf108 rfl rfl rfl rfl rfl (plY) (Nat.le_of_ble_eq_true rfl)) ?_
  rintro _ _ rfl
  refine WLa rfl (WL_nil (WQ_code (WC_ret ?_)))
  refine WQ_ret rfl rfl (.cons (.cell (vs := [_, _, _]) rfl ag79 (mmY) rfl (atZ)) (.cons (.cell (vs := [_, _]) rfl ag108 (mmY) rfl (atZ)) (.cons (.tmp rfl) .nil))) rfl (by
    rw [e9, e8]
    exact ⟨r, rfl, rfl, hr⟩) (pqY)
 ·have h9 : (s.whr i).2 = 0 := Decidable.not_not.1 c1
  obtain ⟨z0, hz0, rfl, e8⟩ := whr_some hp h9
  have e9 := leave_yes s h9
  have e7 : (s.out z0.i).W = wOut s.W z0.i := rfl
  refine WC_skip (WQ_code (WC_seq (WC_region ?_)))
  refine WL_val rfl rfl rfl (R_fieldAddr rfl fa79_0 rfl) ?_
  refine WL_val rfl rfl rfl (R_loadA (vs := [_, _]) rfl ag76 rfl (mmY) rfl (atZ)) ?_
  refine WLa rfl ?_
  refine WL_do rfl rfl rfl (D_call (rwake_ok s.sm s.qm r.os r.sc r.ts r.oq r.qc r.tq hr.os hr.oq hs (by omega) (z0.i : Int)) rfl rfl rfl rfl (pqY)) ?_
  rintro _ _ ⟨_, ⟨V', rfl, os', sc', ts', oq', qc', tq', rfl, hos', hoq', rfl⟩, rfl⟩
  refine WLa rfl (WLa rfl (WLa rfl ?_))
  refine WL_do rfl rfl rfl (D_alloc rfl zv76) ?_
  rintro _ _ ⟨b5, rfl, rfl⟩
  refine WL_do0 rfl rfl (D_store (vs := [_, _]) rfl Tryz.sizeOf76 rfl rfl rfl rfl rfl (plY) (Nat.le_of_ble_eq_true rfl)) ?_
  rintro _ _ rfl
  refine WLa rfl (WL_nil (WQ_code (WC_seq (WC_region ?_))))
  refine WL_val rfl rfl rfl (R_loadA (vs := [_, _]) rfl ag76 rfl (mmY) rfl (atZ)) ?_
  refine WL_val rfl rfl rfl (R_build rfl zv79 pl79 rfl rfl) ?_
  refine WL_do rfl rfl rfl (D_alloc rfl zv79) ?_
  rintro _ _ ⟨b6, rfl, rfl⟩
  refine WL_do0 rfl rfl (D_store (vs := [_, _, _]) rfl Tryz.sizeOf79 rfl rfl rfl rfl rfl (plY) (Nat.le_of_ble_eq_true rfl)) ?_
  rintro _ _ rfl
  refine WL_nil (WQ_code (WC_seq (WC_seq (WC_region (WLa rfl (WL_nil (WQ_code (WC_block ?_))))))))
  refine WC_none 278 ?_
  refine WC_loopF (G := RnW) [12, 33, 34, 35, 36, 37, 38, 39, 40, 41, 42, 43, 44, 45, 46, 47, 48, 49, 50, 51, 52, 53, 54, 55, 56, 57] (fun y => y.j ≤ s.W.length ∧ y.l = wOut (s.W.take y.j) (z0.i : Int) ∧ Own y.o y.l.length y.c 3 (y.l.flatMap encWt) y.t) (fun y => [(12, .int .i64 (y.j : Int))]) (fun y => [⟨some b6, cl [slV os' (stepR s.sm s.qm 2 1 (z0.i : Int)).2.1.length sc', slV oq' (stepR s.sm s.qm 2 1 (z0.i : Int)).2.2.length qc', slV y.o y.l.length y.c] 79⟩, ⟨y.o, cl (y.l.flatMap encWt ++ y.t) 278⟩]) (fun y => s.W.length - y.j) (⟨0, [], none, 0, []⟩) (⟨Nat.zero_le _, rfl, Own.empty 3⟩) leZ (pqY) ?_
  rintro y ⟨hj, hyl, hyo⟩
  have hyn : y.l.length ≤ 64 := by rw [hyl]; exact Nat.le_trans (List.length_filter_le _ _) (by rw [List.length_take]; omega)
  refine WC_seq (WC_seq (WC_region (WLa rfl ?_)))
  refine WL_val rfl rfl rfl (R_fieldAddr rfl fa79_1 rfl) ?_
  refine WL_val rfl rfl rfl (R_load rfl sc77 rfl (mmY) rfl) ?_
  refine WL_val rfl rfl rfl (R_len rfl Tryz.underlying77 rfl) ?_
  refine WL_val rfl rfl rfl (R_lss rfl rfl rfl) ?_
  refine WL_nil (WQ_code ?_)
  refine WC_dec rfl (fun c2 => ?_) (fun c2 => ?_)
  ·refine WC_skip (WQ_code (WC_seq (WC_block (WC_seq (WC_region ?_)))))
   obtain ⟨z, hx⟩ := exE (T := s.W) (i := y.j) (by omega)
   obtain ⟨wb, hwb⟩ := hr.ow.some_of (by omega)
   refine WL_val rfl rfl rfl (R_fieldAddr rfl fa79_1 rfl) ?_
   refine WL_val rfl rfl rfl (R_load rfl sc77 rfl (mmY) rfl) ?_
   refine WLa rfl ?_
   refine WL_val rfl rfl rfl (R_idxO hwb rfl Tryz.underlying77 Tryz.sizeOf278 rfl rfl (by omega)) ?_
   refine WL_val rfl rfl rfl (R_fieldAddr rfl fa278_0 rfl) ?_
   refine WL_val rfl rfl rfl (R_loadO (v := .int .i64 (z.i : Int)) hwb rfl sc3 rfl (mmY) (fm_get0 encWt3 hx (j := 0) (by omega))) ?_
   refine WLa rfl ?_
   refine WL_val rfl rfl rfl (R_neq rfl rfl rfl) ?_
   refine WL_nil (WQ_code ?_)
   refine WC_dec rfl (fun c3 => ?_) (fun c3 => ?_)
   ·have hne : (z.i : Int) ≠ (z0.i : Int) := c3
    refine WC_drawBR [⟨some b6, _⟩, ⟨(y.o), _⟩] [(0, .q), (2, .q), (3, .q), (4, .q), (5, .q), (6, .q), (1, .n [7]), (7, .b []), (8, .n []), (9, .q), (10, .n [])] followsMixed rfl rfl (by kernel_rfl) (pqY) ?_
    refine WB_val rfl rfl rfl rfl (R_fieldAddr rfl fa79_1 rfl) ?_
    refine WB_val rfl rfl rfl rfl (R_fieldAddr rfl fa79_1 rfl) ?_
    refine WB_val rfl rfl rfl rfl (R_load rfl sc77 rfl (mmY) rfl) ?_
    refine WB_val rfl rfl rfl rfl (R_move rfl rfl) ?_
    refine WB_val rfl rfl rfl rfl (R_idxO hwb rfl Tryz.underlying77 Tryz.sizeOf278 rfl rfl (by omega)) ?_
    refine WB_val rfl rfl rfl rfl (R_loadAO (vs := encWt z) hwb rfl ag278 rfl (mmY) rfl (fm_at0 encWt3 hx (j := 0) (vs := encWt z) (fun j v h => by rw [Nat.zero_add]; exact h) (Nat.le_refl 3))) ?_
    refine WB_do rfl rfl rfl rfl (.cons rfl rfl (B_buildSlice rfl si77 rfl rfl rfl) .nil) (fun _ => Runs.does (R_load rfl sc77 rfl (mmY) rfl)) ?_
    rintro _ _ ⟨rfl, rfl⟩
    refine ⟨⟨_, pqY⟩, ?_⟩
    refine WB_birth rfl rfl rfl rfl .nil (B_buildSlice rfl si77 rfl rfl rfl) (fun b7 => ?_)
    refine WB_do rfl rfl rfl rfl .nil (fun _ => D_append rfl si77 rfl (hyo) (plY) rfl (mmY) ((atZ : At _ 0 [_, _, _])) (rfl) (rfl) (by omega) (by omega)) ?_
    rintro _ _ ⟨ob8, cap8, tl8, rfl, own8, rfl⟩
    refine ⟨⟨_, pqY⟩, ?_⟩
    rw [show y.l.flatMap encWt ++ [Value.int .i64 (z.i : Int), .int .i64 z.at_.1, .int .i64 z.at_.2] = (y.l ++ [z]).flatMap encWt from by rw [List.flatMap_append]; rfl, show y.l.length + 1 = (y.l ++ [z]).length from by rw [List.length_append]; rfl] at *
    refine WB_val rfl rfl rfl rfl (R_fieldAddr rfl fa79_1 rfl) ?_
    refine WB_do0 rfl rfl rfl .nil (fun _ => D_store (vs := [_]) rfl Tryz.sizeOf77 rfl rfl rfl rfl rfl (plY) (Nat.le_of_ble_eq_true rfl)) ?_
    rintro _ _ rfl
    refine ⟨⟨_, pqY⟩, ?_⟩
    refine WB_nil (WQ_code (WC_region (WLa rfl ?_)))
    refine WL_val rfl rfl rfl (R_add rfl rfl rfl (by omega)) ?_
    refine WLa rfl (WL_nil ?_)
    refine WQ_nextF (⟨y.j + 1, y.l ++ [z], ob8, cap8, tl8⟩) (⟨by dsimp only; omega, by dsimp only; rw [tkW hx, wOut_next, if_pos hne, ← hyl], own8⟩) (by dsimp only; omega) leZ (psZ) rfl (pqY)
   ·have hne : ¬ (z.i : Int) ≠ (z0.i : Int) := c3
    refine WC_skip (WQ_code (WC_region (WLa rfl ?_)))
    refine WL_val rfl rfl rfl (R_add rfl rfl rfl (by omega)) ?_
    refine WLa rfl (WL_nil ?_)
    refine WQ_nextF (⟨y.j + 1, y.l, y.o, y.c, y.t⟩) (⟨by dsimp only; omega, by dsimp only; rw [tkW hx, wOut_next, if_neg hne, ← hyl, List.append_nil], hyo⟩) (by dsimp only; omega) leZ (psZ) rfl (pqY)
  ·have hfin : y.l = wOut s.W (z0.i : Int) := by rw [hyl, List.take_of_length_le (by omega)]
   refine WC_exit (WQ_code (WC_seq ?_))
   refine WC_drawR [⟨some b2, _⟩, ⟨some b3, _⟩] [(0, true), (1, true), (2, false), (3, false), (4, true)] followsMixed rfl rfl (by kernel_rfl) (pqY) ?_
   refine WM_val rfl rfl rfl rfl (R_loadA (vs := [_, _, _]) rfl ag79 rfl (mmY) rfl (atZ)) ?_
   refine WM_val rfl rfl rfl rfl (R_loadA (vs := [_, _]) rfl ag108 rfl (mmY) rfl (atZ)) ?_
   refine WM_do0 rfl rfl rfl (D_store (vs := [_, _, _]) rfl Tryz.sizeOf79 rfl rfl rfl rfl rfl (plY) (Nat.le_of_ble_eq_true rfl)) ?_
   rintro _ _ rfl
   refine ⟨⟨_, pqY⟩, ?_⟩
   refine WM_do0 rfl rfl rfl (D_store (vs := [_, _]) rfl Tryz.sizeOf108 rfl rfl rfl rfl rfl (plY) (Nat.le_of_ble_eq_true rfl)) ?_
   rintro _ _ rfl
   refine ⟨⟨_, pqY⟩, ?_⟩
   refine WMa rfl (WM_nil (WQ_code (WC_ret ?_)))
   rw [hfin]
   rw [hfin] at hyo
   refine WQ_ret rfl rfl (.cons (.cell (vs := [_, _, _]) rfl ag79 (mmY) rfl (atZ)) (.cons (.cell (vs := [_, _]) rfl ag108 (mmY) rfl (atZ)) (.cons (.tmp rfl) .nil))) rfl (by
     rw [e9]
     exact ⟨⟨os', sc', ts', oq', qc', tq', y.o, y.c, y.t⟩, by rw [h9]; rfl, rfl, hos', hoq', hyo⟩) (pqY)
end Go.Proofs.YtbkdebnkoidicaaGreat
end
section
set_option linter.unusedVariables false
set_option maxRecDepth 20000
set_option maxHeartbeats 2000000
namespace Go.Proofs.YtbkdebnkoidicaaGreat
theorem waiting_in {s : PS} {a : Sp} {v : Int} {k : Nat} (h : (s.waiting a)[k]? = some v) : vldS a ∧ s.waiting a = wAt s.W a := by
 have hv : vldS a := by
  by_cases h9 : vldS a
  ·exact h9
  ·unfold PS.waiting at h
   rw [if_neg h9] at h; cases h
 exact ⟨hv, by unfold PS.waiting; rw [if_pos hv]⟩
theorem wakes_z {s : PS} (h : PsOk s) {a : Sp} {v : Int} {k : Nat} (hx : (s.waiting a)[k]? = some v) : PsOk (((s.waiting a).take k).foldl PS.out s) ∧ (((s.waiting a).take k).foldl PS.out s).sm.length = s.sm.length ∧ ∃ z ∈ (((s.waiting a).take k).foldl PS.out s).W, z.at_ = a ∧ (z.i : Int) = v := by
 obtain ⟨hv, hwt⟩ := waiting_in hx
 rw [hwt] at hx ⊢
 have hk := (List.getElem?_eq_some_iff.1 hx).1
 obtain ⟨h1, h2, h3⟩ := wakes_ok h a k (by omega)
 exact ⟨h1, h3, wAt_mem.1 (by rw [h2]; exact List.mem_of_getElem? (i := 0) (by rw [List.getElem?_drop]; exact hx))⟩
theorem wakes_room {s : PS} (h : PsOk s) (a : Sp) (hroom : s.qm.length + s.W.length ≤ 64) : ∀ k, k ≤ (s.waiting a).length → (((s.waiting a).take k).foldl PS.out s).qm.length + (((s.waiting a).take k).foldl PS.out s).W.length ≤ 64 := by
 intro k
 induction k with
 | zero => intro _; rw [List.take_zero, List.foldl_nil]; exact hroom
 | succ k ih =>
  intro hk
  obtain ⟨v, hx⟩ := exE (T := s.waiting a) (i := k) (by omega)
  obtain ⟨h1, _, z, hz, _, rfl⟩ := wakes_z h hx
  rw [take_get hx, List.foldl_append]
  exact Nat.le_trans (out_room h1 hz) (ih (by omega))
theorem leave_z {s : PS} (h : PsOk s) {z : Wt} (hz : z ∈ s.W) : s.leave z.i = s.out z.i := leave_yes s (by rw [h.whr_yes hz])
theorem rf_wakeall (s : PS) (r : RfM) (hr : RfOk s r) (hs : s.sm.length ≤ 64) (hroom : s.qm.length + s.W.length ≤ 64) (hp : PsOk s) (a : Sp) : Spec Tryz.prog 166 [rfV s r, ekS a] (rfH s r) (fun v H' => ∃ (r' : RfM) (ob : Option Nat) (c' : Nat) (tl' : List Value), v = .tuple #[rfV (s.wakeAll a) r', slV ob (s.waiting a).length c', .int .i64 (spE a)] ∧ Own ob (s.waiting a).length c' 1 (ivs (s.waiting a)) tl' ∧ H' = ⟨ob, cl (ivs (s.waiting a) ++ tl') 3⟩ :: rfH (s.wakeAll a) r' ∧ RfOk (s.wakeAll a) r') := by
 have hwl := waiting_len hp a
 refine Spec.of (E := [(0, rfV s r), (1, ekS a)]) Tryz.func166 rfl (by kernel_rfl) Tryz.ntmps166 rfl rfl (fun w => ?_)
 refine WC_seq (WC_region ?_)
 refine WL_do rfl rfl rfl (D_box (cs := [_, _, _]) rfl rfl rfl) ?_
 rintro _ _ ⟨b1, rfl, rfl⟩
 refine WL_do rfl rfl rfl (D_box (cs := [_, _]) rfl rfl rfl) ?_
 rintro _ _ ⟨b2, rfl, rfl⟩
 refine WL_do rfl rfl rfl (D_alloc rfl zv79) ?_
 rintro _ _ ⟨b3, rfl, rfl⟩
 refine WLa rfl (WLa rfl (WL_nil (WQ_code (WC_seq (WC_region ?_)))))
 refine WL_val rfl rfl rfl (R_loadA (vs := [_, _, _]) rfl ag79 rfl (mmY) rfl (atZ)) ?_
 refine WL_val rfl rfl rfl (R_loadA (vs := [_, _]) rfl ag108 rfl (mmY) rfl (atZ)) ?_
 refine WL_do rfl rfl rfl (D_call (rf_waiting s r hr hs hroom a) rfl rfl rfl rfl (pqY)) ?_
 rintro _ _ ⟨_, ⟨ob, c', tl', rfl, own', rfl⟩, rfl⟩
 refine WLa rfl (WLa rfl (WLa rfl (WLa rfl (WLa rfl (WL_nil (WQ_code (WC_seq (WC_region ?_))))))))
 refine WL_val rfl rfl rfl (R_loadA (vs := [_, _, _]) rfl ag79 rfl (mmY) rfl (atZ)) ?_
 refine WL_do rfl rfl rfl (D_alloc rfl zv79) ?_
 rintro _ _ ⟨b4, rfl, rfl⟩
 refine WL_do0 rfl rfl (D_store (vs := [_, _, _]) rfl Tryz.sizeOf79 rfl rfl rfl rfl rfl (plY) (Nat.le_of_ble_eq_true rfl)) ?_
 rintro _ _ rfl
 refine WL_nil (WQ_code (WC_seq (WC_seq (WC_region (WLa rfl (WL_nil (WQ_code (WC_block ?_))))))))
 refine WC_loopF (G := RaW) [10, 18, 19, 20, 21, 22, 23, 24, 25, 26, 27, 28, 29, 30, 31, 32, 33] (fun y => y.k ≤ (s.waiting a).length ∧ RfOk (((s.waiting a).take y.k).foldl PS.out s) y.r) (fun y => [(10, .int .i64 (y.k : Int))]) (fun y => ⟨some b4, cl [slV y.r.os (((s.waiting a).take y.k).foldl PS.out s).sm.length y.r.sc, slV y.r.oq (((s.waiting a).take y.k).foldl PS.out s).qm.length y.r.qc, slV y.r.ow (((s.waiting a).take y.k).foldl PS.out s).W.length y.r.wc] 79⟩ :: rfH (((s.waiting a).take y.k).foldl PS.out s) y.r) (fun y => (s.waiting a).length - y.k) (⟨0, r⟩) (⟨Nat.zero_le _, hr⟩) leZ (pqY) ?_
 rintro y ⟨hyk, hy⟩
 refine WC_seq (WC_seq (WC_region (WLa rfl (WLa rfl ?_))))
 refine WL_val rfl rfl rfl (R_len rfl Tryz.underlying34 rfl) ?_
 refine WL_val rfl rfl rfl (R_lss rfl rfl rfl) ?_
 refine WL_nil (WQ_code ?_)
 refine WC_dec rfl (fun c1 => ?_) (fun c1 => ?_)
 ·refine WC_skip (WQ_code (WC_seq (WC_block ?_)))
  refine WC_drawR (⟨some b4, _⟩ :: rfH (((s.waiting a).take y.k).foldl PS.out s) y.r) [(1, true), (2, true), (3, true), (4, true), (0, false), (5, false), (6, true), (7, true), (8, true), (9, true), (10, false)] followsMixed rfl rfl (by kernel_rfl) (pqY) ?_
  obtain ⟨v, hx⟩ := exE (T := s.waiting a) (i := y.k) (by omega)
  obtain ⟨wb, hwb⟩ := own'.some_of (by omega)
  obtain ⟨hpk, hsl, z, hz, hza, rfl⟩ := wakes_z hp hx
  have hroom2 := wakes_room hp a hroom
  have hlv := leave_z hpk hz
  refine WMa rfl (WMa rfl ?_)
  refine WM_val rfl rfl rfl rfl (R_idxO hwb rfl Tryz.underlying34 Tryz.sizeOf3 rfl rfl (by omega)) ?_
  refine WM_val rfl rfl rfl rfl (R_loadO (v := .int .i64 (z.i : Int)) hwb rfl sc3 rfl (mmY) (fm_get0 encI1 hx (j := 0) (by omega))) ?_
  refine WM_do rfl rfl rfl rfl (Runs.does (R_loadA (vs := [_, _, _]) rfl ag79 rfl (mmY) rfl (atZ))) ?_
  rintro _ _ ⟨rfl, rfl⟩
  refine ⟨⟨_, pqY⟩, ?_⟩
  refine WM_do rfl rfl rfl rfl (D_call (rf_leave (((s.waiting a).take y.k).foldl PS.out s) y.r hy (by omega) (hroom2 y.k (by omega)) hpk (z.i : Int)) rfl rfl rfl rfl (pqY)) ?_
  rintro _ _ ⟨_, ⟨r', rfl, rfl, hr'⟩, rfl⟩
  refine ⟨⟨_, pqY⟩, ?_⟩
  rw [hlv] at hr'
  rw [hlv]
  refine WMa rfl (WMa rfl (WMa rfl (WMa rfl ?_)))
  refine WM_do0 rfl rfl rfl (D_store (vs := [_, _, _]) rfl Tryz.sizeOf79 rfl rfl rfl rfl rfl (plY) (Nat.le_of_ble_eq_true rfl)) ?_
  rintro _ _ rfl
  refine ⟨⟨_, pqY⟩, ?_⟩
  refine WM_nil (WQ_code (WC_region (WLa rfl ?_)))
  refine WL_val rfl rfl rfl (R_add rfl rfl rfl (by omega)) ?_
  refine WLa rfl (WL_nil ?_)
  have hfs : (((s.waiting a).take (y.k + 1)).foldl PS.out s) = PS.out (((s.waiting a).take y.k).foldl PS.out s) (z.i : Int) := by rw [take_get hx, List.foldl_append]; rfl
  rw [← hfs] at hr' ⊢
  refine WQ_nextF (⟨y.k + 1, r'⟩) (⟨by dsimp only; omega, hr'⟩) (by dsimp only; omega) leZ (psZ) rfl (pqY)
 ·have hyl : y.k = (s.waiting a).length := by omega
  have hfin : (((s.waiting a).take y.k).foldl PS.out s) = s.wakeAll a := by rw [hyl, List.take_length]; rfl
  rw [hfin] at hy
  rw [hfin]
  refine WC_exit (WQ_code (WC_seq (WC_region ?_)))
  refine WL_val rfl rfl rfl (R_loadA (vs := [_, _, _]) rfl ag79 rfl (mmY) rfl (atZ)) ?_
  refine WLa rfl (WLa rfl ?_)
  refine WL_do0 rfl rfl (D_store (vs := [_, _, _]) rfl Tryz.sizeOf79 rfl rfl rfl rfl rfl (plY) (Nat.le_of_ble_eq_true rfl)) ?_
  rintro _ _ rfl
  refine WLa rfl (WLa rfl (WL_nil (WQ_code (WC_ret ?_))))
  refine WQ_ret rfl rfl (.cons (.cell (vs := [_, _, _]) rfl ag79 (mmY) rfl (atZ)) (.cons (.tmp rfl) (.cons (.tmp rfl) .nil))) rfl (by
    exact ⟨y.r, ob, c', tl', rfl, own', rfl, hy⟩) (pqY)
theorem rf_wake (s : PS) (r : RfM) (hr : RfOk s r) (hs : s.sm.length ≤ 64) (hroom : s.qm.length + s.W.length ≤ 64) (hp : PsOk s) (a : Sp) : Spec Tryz.prog 129 [rfV s r, ekS a] (rfH s r) (fun v H' => ∃ r' : RfM, v = .tuple #[rfV (s.wake a) r', .int .i64 (s.wakeR a).1, .int .i64 (s.wakeR a).2] ∧ H' = rfH (s.wake a) r' ∧ RfOk (s.wake a) r') := by
 refine Spec.of (E := [(0, rfV s r), (1, ekS a)]) Tryz.func129 rfl (by kernel_rfl) Tryz.ntmps129 rfl rfl (fun w => ?_)
 refine WC_seq (WC_region ?_)
 refine WL_do rfl rfl rfl (D_box (cs := [_, _, _]) rfl rfl rfl) ?_
 rintro _ _ ⟨b1, rfl, rfl⟩
 refine WL_do rfl rfl rfl (D_box (cs := [_, _]) rfl rfl rfl) ?_
 rintro _ _ ⟨b2, rfl, rfl⟩
 refine WL_do rfl rfl rfl (D_alloc rfl zv79) ?_
 rintro _ _ ⟨b3, rfl, rfl⟩
 refine WLa rfl (WLa rfl (WL_nil (WQ_code (WC_seq (WC_region ?_)))))
 refine WL_val rfl rfl rfl (R_loadA (vs := [_, _, _]) rfl ag79 rfl (mmY) rfl (atZ)) ?_
 refine WL_val rfl rfl rfl (R_loadA (vs := [_, _]) rfl ag108 rfl (mmY) rfl (atZ)) ?_
 refine WL_do rfl rfl rfl (D_call (rf_waiting s r hr hs hroom a) rfl rfl rfl rfl (pqY)) ?_
 rintro _ _ ⟨_, ⟨ob, c', tl', rfl, own', rfl⟩, rfl⟩
 refine WLa rfl (WLa rfl (WLa rfl (WLa rfl (WLa rfl (WL_nil (WQ_code (WC_seq (WC_seq (WC_region (WLa rfl ?_))))))))))
 refine WL_val rfl rfl rfl (R_neq rfl rfl rfl) ?_
 refine WL_nil (WQ_code ?_)
 refine WC_dec rfl (fun c1 => ?_) (fun c1 => ?_)
 ·have hv : ¬ vldS a := fun h9 => by unfold spE at c1; rw [if_pos h9] at c1; exact c1 rfl
  have e9 := wakeR_bad s hv
  have hsp : spE a = 2 := if_neg hv
  have ew : s.wake a = s := by unfold PS.wake; rw [e9, if_neg (by decide)]
  refine WC_seq (WC_region ?_)
  refine WL_val rfl rfl rfl (R_loadA (vs := [_, _, _]) rfl ag79 rfl (mmY) rfl (atZ)) ?_
  refine WLa rfl ?_
  refine WL_do0 rfl rfl (D_store (vs := [_, _, _]) rfl Tryz.sizeOf79 rfl rfl rfl rfl rfl (plY) (Nat.le_of_ble_eq_true rfl)) ?_
  rintro _ _ rfl
  refine WLa rfl (WLa rfl (WL_nil (WQ_code (WC_ret ?_))))
  refine WQ_ret rfl rfl (.cons (.cell (vs := [_, _, _]) rfl ag79 (mmY) rfl (atZ)) (.cons (.tmp rfl) (.cons (.tmp rfl) .nil))) rfl (by
    rw [ew, e9, hsp]
    exact ⟨r, rfl, rfl, hr⟩) (pqY)
 ·have hv : vldS a := by by_cases h9 : vldS a; exact h9; (unfold spE at c1; rw [if_neg h9] at c1; exact absurd (by decide) c1)
  have hwt : s.waiting a = wAt s.W a := by unfold PS.waiting; rw [if_pos hv]
  refine WC_skip (WQ_code (WC_seq (WC_seq (WC_region (WLa rfl ?_)))))
  refine WL_val rfl rfl rfl (R_len rfl Tryz.underlying34 rfl) ?_
  refine WL_val rfl rfl rfl (R_eql rfl rfl rfl) ?_
  refine WL_nil (WQ_code ?_)
  refine WC_dec rfl (fun c2 => ?_) (fun c2 => ?_)
  ·have e9 := wakeR_none s hv (by rw [← hwt]; exact List.eq_nil_of_length_eq_zero (by omega))
   have hsp : (0 : Int) = 0 := rfl
   have ew : s.wake a = s := by unfold PS.wake; rw [e9, if_neg (by decide)]
   refine WC_seq (WC_region ?_)
   refine WL_val rfl rfl rfl (R_loadA (vs := [_, _, _]) rfl ag79 rfl (mmY) rfl (atZ)) ?_
   refine WL_do0 rfl rfl (D_store (vs := [_, _, _]) rfl Tryz.sizeOf79 rfl rfl rfl rfl rfl (plY) (Nat.le_of_ble_eq_true rfl)) ?_
   rintro _ _ rfl
   refine WLa rfl (WLa rfl (WL_nil (WQ_code (WC_ret ?_))))
   refine WQ_ret rfl rfl (.cons (.cell (vs := [_, _, _]) rfl ag79 (mmY) rfl (atZ)) (.cons (.tmp rfl) (.cons (.tmp rfl) .nil))) rfl (by
     rw [ew, e9]
     exact ⟨r, rfl, rfl, hr⟩) (pqY)
  ·obtain ⟨v, hx⟩ := exE (T := s.waiting a) (i := 0) (by omega)
   have e9 := wakeR_some s hv (hwt ▸ hx)
   obtain ⟨z, hz, hza, rfl⟩ := wAt_mem.1 (show v ∈ wAt s.W a by rw [← hwt]; exact List.mem_of_getElem? hx)
   obtain ⟨wb, hwb⟩ := own'.some_of (by omega)
   have hlv := leave_z hp hz
   have ew : s.wake a = s.out (z.i : Int) := by unfold PS.wake; rw [e9, if_pos rfl]
   refine WC_skip (WQ_code (WC_seq ?_))
   refine WC_drawBR (rfH s r) [(0, .q), (1, .q), (2, .q), (3, .q), (4, .n [9, 10]), (5, .q), (6, .q), (7, .q), (8, .q), (9, .b [10]), (10, .b []), (11, .n []), (12, .n []), (13, .q)] followsMixed rfl rfl (by kernel_rfl) (pqY) ?_
   refine WB_val rfl rfl rfl rfl (R_loadA (vs := [_, _, _]) rfl ag79 rfl (mmY) rfl (atZ)) ?_
   refine WB_val rfl rfl rfl rfl (R_move rfl rfl) ?_
   refine WB_val rfl rfl rfl rfl (R_idxO hwb rfl Tryz.underlying34 Tryz.sizeOf3 rfl rfl (by simp; omega)) ?_
   refine WB_val rfl rfl rfl rfl (R_loadO (v := .int .i64 (z.i : Int)) hwb rfl sc3 rfl (mmY) (fm_get0 encI1 hx (j := 0) (by omega))) ?_
   refine WB_do rfl rfl rfl rfl (.cons rfl rfl (B_alloc rfl zv79) (.cons rfl rfl (B_alloc rfl zv108) .nil)) (fun _ => D_call (rf_leave s r hr hs hroom hp (z.i : Int)) rfl rfl rfl rfl (pqY)) ?_
   rintro _ _ ⟨_, ⟨r', rfl, rfl, hr'⟩, rfl⟩
   refine ⟨⟨_, pqY⟩, ?_⟩
   rw [hlv] at hr'
   rw [hlv]
   refine WB_val rfl rfl rfl rfl (R_move rfl rfl) ?_
   refine WB_val rfl rfl rfl rfl (R_extract rfl rfl rfl) ?_
   refine WB_val rfl rfl rfl rfl (R_extract rfl rfl rfl) ?_
   refine WB_val rfl rfl rfl rfl (R_extract rfl rfl rfl) ?_
   refine WB_birth rfl rfl rfl rfl (.cons rfl rfl (B_alloc rfl zv108) .nil) (B_alloc rfl zv79) (fun b4 => ?_)
   refine WB_birth rfl rfl rfl rfl .nil (B_alloc rfl zv108) (fun b5 => ?_)
   refine WB_do0 rfl rfl rfl .nil (fun _ => D_store (vs := [_, _, _]) rfl Tryz.sizeOf79 rfl rfl rfl rfl rfl (plY) (Nat.le_of_ble_eq_true rfl)) ?_
   rintro _ _ rfl
   refine ⟨⟨_, pqY⟩, ?_⟩
   refine WB_do0 rfl rfl rfl .nil (fun _ => D_store (vs := [_, _]) rfl Tryz.sizeOf108 rfl rfl rfl rfl rfl (plY) (Nat.le_of_ble_eq_true rfl)) ?_
   rintro _ _ rfl
   refine ⟨⟨_, pqY⟩, ?_⟩
   refine WB_val rfl rfl rfl rfl (R_assign rfl rfl) ?_
   refine WB_nil (WQ_code (WC_seq ?_))
   refine WC_drawR [⟨some b3, _⟩] [(0, true), (1, true), (2, true), (3, true), (4, false), (5, true), (6, true)] followsMixed rfl rfl (by kernel_rfl) (pqY) ?_
   refine WM_val rfl rfl rfl rfl (R_loadA (vs := [_, _, _]) rfl ag79 rfl (mmY) rfl (atZ)) ?_
   refine WMa rfl ?_
   refine WM_val rfl rfl rfl rfl (R_idxO hwb rfl Tryz.underlying34 Tryz.sizeOf3 rfl rfl (by simp; omega)) ?_
   refine WM_val rfl rfl rfl rfl (R_loadO (v := .int .i64 (z.i : Int)) hwb rfl sc3 rfl (mmY) (fm_get0 encI1 hx (j := 0) (by omega))) ?_
   refine WM_do0 rfl rfl rfl (D_store (vs := [_, _, _]) rfl Tryz.sizeOf79 rfl rfl rfl rfl rfl (plY) (Nat.le_of_ble_eq_true rfl)) ?_
   rintro _ _ rfl
   refine ⟨⟨_, pqY⟩, ?_⟩
   refine WMa rfl (WMa rfl (WM_nil (WQ_code (WC_ret ?_))))
   refine WQ_ret rfl rfl (.cons (.cell (vs := [_, _, _]) rfl ag79 (mmY) rfl (atZ)) (.cons (.tmp rfl) (.cons (.tmp rfl) .nil))) rfl (by
     rw [ew, e9]
     exact ⟨r', rfl, rfl, hr'⟩) (pqY)
end Go.Proofs.YtbkdebnkoidicaaGreat
end
section
set_option linter.unusedVariables false
set_option maxRecDepth 20000
namespace Go.Proofs.YtbkdebnkoidicaaGreat.Dr
structure RD (f : Nat → Nat) (D : List Lp) : Prop where
 inn : ∀ x ∈ D, ∃ i : Nat, i < 256 ∧ x = lpI f i ∧ f i < 18446744073709551615
 all : ∀ i, i < 256 → f i < 18446744073709551615 → lpI f i ∈ D
 nd : D.Pairwise (fun a b => ¬ (a.fd = b.fd ∧ a.dir = b.dir))
theorem RD.new : RD (fun _ => 18446744073709551615) [] := ⟨fun x hx => (by cases hx), fun i _ h => (by omega), .nil⟩
def dropP (D : List Lp) (a b : Int) : List Lp := D.filter (fun x => !decide (x.fd = a ∧ x.dir = b))
theorem dropP_snoc (D : List Lp) (x : Lp) (a b : Int) : dropP (D ++ [x]) a b = dropP D a b ++ (if x.fd = a ∧ x.dir = b then [] else [x]) := by
 rw [dropP, dropP, List.filter_append]
 by_cases h : x.fd = a ∧ x.dir = b
 ·simp [h]
 ·rw [if_neg h]; simp only [List.filter_cons, decide_eq_false h, Bool.not_false, if_true, List.filter_nil]
theorem place_eq {i j : Nat} (h1 : ((i / 2 : Nat) : Int) = ((j / 2 : Nat) : Int)) (h2 : ((i % 2 : Nat) : Int) = ((j % 2 : Nat) : Int)) : i = j := by omega
theorem lpI_upd (f : Nat → Nat) {i j : Nat} (k : Nat) (h : j ≠ i) : lpI (updF f i k) j = lpI f j := by unfold lpI; rw [updF_ne f k h]
section
variable {f : Nat → Nat} {D : List Lp} {now to : Nat}
theorem RD.drop (h : RD f D) {i : Nat} : (∀ x ∈ dropP D ((i / 2 : Nat) : Int) ((i % 2 : Nat) : Int), ∃ j : Nat, j < 256 ∧ j ≠ i ∧ x = lpI f j ∧ f j < 18446744073709551615) ∧ (∀ j, j < 256 → j ≠ i → f j < 18446744073709551615 → lpI f j ∈ dropP D ((i / 2 : Nat) : Int) ((i % 2 : Nat) : Int)) ∧ (dropP D ((i / 2 : Nat) : Int) ((i % 2 : Nat) : Int)).Pairwise (fun a b => ¬ (a.fd = b.fd ∧ a.dir = b.dir)) := by
 refine ⟨fun x hx => ?_, fun j hj hne hk => ?_, h.nd.filter _⟩
 ·obtain ⟨h1, h2⟩ := List.mem_filter.1 hx
  obtain ⟨j, hj, rfl, hk⟩ := h.inn x h1
  refine ⟨j, hj, fun e => ?_, rfl, hk⟩
  subst e
  simp [lpI] at h2
 ·refine List.mem_filter.2 ⟨h.all j hj hk, ?_⟩
  rw [Bool.not_eq_true', decide_eq_false_iff_not]
  rintro ⟨h1, h2⟩
  exact hne (place_eq h1 h2)
theorem RD.never (h : RD f D) {i : Nat} : RD (updF f i 18446744073709551615) (dropP D ((i / 2 : Nat) : Int) ((i % 2 : Nat) : Int)) := by
 obtain ⟨h1, h2, h3⟩ := h.drop (i := i)
 refine ⟨fun x hx => ?_, fun j hj hk => ?_, h3⟩
 ·obtain ⟨j, q1, q2, q3, q4⟩ := h1 x hx
  exact ⟨j, q1, by rw [lpI_upd f _ q2]; exact q3, by rw [updF_ne f _ q2]; exact q4⟩
 ·by_cases e : j = i
  ·subst e; rw [updF_self] at hk; omega
  ·rw [updF_ne f _ e] at hk
   rw [lpI_upd f _ e]; exact h2 j hj e hk
theorem RD.put (h : RD f D) {i k : Nat} (hi : i < 256) (hk : k < 18446744073709551615) : RD (updF f i k) (dropP D ((i / 2 : Nat) : Int) ((i % 2 : Nat) : Int) ++ [⟨((i / 2 : Nat) : Int), ((i % 2 : Nat) : Int), k⟩]) := by
 obtain ⟨h1, h2, h3⟩ := h.drop (i := i)
 have hs : (⟨((i / 2 : Nat) : Int), ((i % 2 : Nat) : Int), k⟩ : Lp) = lpI (updF f i k) i := by unfold lpI; rw [updF_self]
 refine ⟨fun x hx => ?_, fun j hj hk2 => ?_, ?_⟩
 ·rcases List.mem_append.1 hx with hx | hx
  ·obtain ⟨j, q1, q2, q3, q4⟩ := h1 x hx
   exact ⟨j, q1, by rw [lpI_upd f _ q2]; exact q3, by rw [updF_ne f _ q2]; exact q4⟩
  ·rw [List.mem_singleton] at hx
   exact ⟨i, hi, hx.trans hs, by rw [updF_self]; exact hk⟩
 ·by_cases e : j = i
  ·subst e; exact List.mem_append_right _ (List.mem_singleton.2 hs.symm)
  ·rw [updF_ne f _ e] at hk2
   rw [lpI_upd f _ e]; exact List.mem_append_left _ (h2 j hj e hk2)
 ·rw [List.pairwise_append]
  refine ⟨h3, List.pairwise_singleton _ _, fun x hx y hy => ?_⟩
  rw [List.mem_singleton] at hy
  subst hy
  obtain ⟨j, q1, q2, rfl, _⟩ := h1 x hx
  rintro ⟨e1, e2⟩
  exact q2 (place_eq e1 e2)
theorem RD.len (h : RD f D) : D.length ≤ 256 := by
 have hnd : (D.map (fun x => (x.fd * 2 + x.dir).toNat)).Nodup := by
  rw [List.Nodup, List.pairwise_map]
  refine (List.Pairwise.and_mem.1 h.nd).imp fun {a b} ⟨ha, hb, hne⟩ e => hne ?_
  obtain ⟨i, _, rfl, _⟩ := h.inn a ha
  obtain ⟨j, _, rfl, _⟩ := h.inn b hb
  unfold lpI at e ⊢
  dsimp only at e ⊢
  omega
 have := List.Nodup.length_le_of_subset hnd (l₂ := List.range 256) fun x hx => by
  obtain ⟨y, hy, rfl⟩ := List.mem_map.1 hx
  obtain ⟨i, hi, rfl, _⟩ := h.inn y hy
  rw [List.mem_range]
  unfold lpI
  dsimp only
  omega
 rw [List.length_map, List.length_range] at this; exact this
theorem RD.at_ (h : RD f D) {x : Lp} (hx : x ∈ D) : x.at_ < 18446744073709551615 := by
 obtain ⟨i, _, rfl, hk⟩ := h.inn x hx; exact hk
theorem RD.one (h : RD f D) {i j : Nat} {x y : Lp} (hx : D[i]? = some x) (hy : D[j]? = some y) (h1 : x.fd = y.fd) (h2 : x.dir = y.dir) : i = j := by
 obtain ⟨q1, rfl⟩ := List.getElem?_eq_some_iff.1 hx
 obtain ⟨q2, rfl⟩ := List.getElem?_eq_some_iff.1 hy
 have := List.pairwise_iff_getElem.1 h.nd
 rcases Nat.lt_trichotomy i j with e | e | e
 ·exact absurd ⟨h1, h2⟩ (this i j q1 q2 e)
 ·exact e
 ·exact absurd ⟨h1.symm, h2.symm⟩ (this j i q2 q1 e)
def minL (l : List Nat) : Nat := l.foldl Nat.min 18446744073709551615
theorem minL_snoc (l : List Nat) (x : Nat) : minL (l ++ [x]) = Nat.min (minL l) x := by rw [minL, List.foldl_append]; rfl
theorem foldl_min : ∀ (l : List Nat) (a : Nat), (l.foldl Nat.min a ≤ a ∧ ∀ x ∈ l, l.foldl Nat.min a ≤ x) ∧ (l.foldl Nat.min a = a ∨ l.foldl Nat.min a ∈ l)
 | [], a => ⟨⟨Nat.le_refl _, fun x hx => by cases hx⟩, .inl rfl⟩
 | y :: l, a => by
  obtain ⟨⟨h1, h2⟩, h3⟩ := foldl_min l (Nat.min a y)
  have e1 : Nat.min a y ≤ a := Nat.min_le_left _ _
  have e2 : Nat.min a y ≤ y := Nat.min_le_right _ _
  rw [List.foldl_cons]
  refine ⟨⟨by omega, fun x hx => ?_⟩, ?_⟩
  ·rcases List.mem_cons.1 hx with rfl | hx
   ·omega
   ·exact h2 x hx
  ·rcases h3 with h3 | h3
   ·rcases Nat.le_total a y with h4 | h4
    ·exact .inl (h3.trans (Nat.min_eq_left h4))
    ·exact .inr (by rw [h3, show Nat.min a y = y from Nat.min_eq_right h4]; exact List.mem_cons_self ..)
   ·exact .inr (List.mem_cons_of_mem _ h3)
theorem minL_le (l : List Nat) : minL l ≤ 18446744073709551615 ∧ ∀ x ∈ l, minL l ≤ x := (foldl_min l _).1
theorem minL_is (l : List Nat) : minL l = 18446744073709551615 ∨ minL l ∈ l := (foldl_min l _).2
def awake (D : List Lp) (now : Nat) : List Nat := (D.filter (fun x => decide (now < x.at_))).map (fun x => x.at_)
theorem awake_snoc (D : List Lp) (x : Lp) (now : Nat) : awake (D ++ [x]) now = awake D now ++ (if now < x.at_ then [x.at_] else []) := by
 rw [awake, awake, List.filter_append, List.map_append]
 by_cases h : now < x.at_ <;> simp [h]
theorem RD.next (h : RD f D) (now : Nat) : IsNx f now (minL (awake D now)) := by
 have hm := minL_le (awake D now)
 refine ⟨⟨hm.1, fun i hi h1 => ?_⟩, ?_⟩
 ·rcases Nat.lt_or_ge (f i) 18446744073709551615 with h2 | h2
  ·exact .inl (hm.2 _ (List.mem_map.2 ⟨lpI f i, List.mem_filter.2 ⟨h.all i hi h2, decide_eq_true h1⟩, rfl⟩))
  ·exact .inr h2
 ·rcases minL_is (awake D now) with e | e
  ·exact .inl e
  ·obtain ⟨x, hx, e2⟩ := List.mem_map.1 e
   obtain ⟨h1, h2⟩ := List.mem_filter.1 hx
   obtain ⟨i, hi, rfl, hk⟩ := h.inn x h1
   have h3 : now < f i := of_decide_eq_true h2
   have e3 : f i = minL (awake D now) := e2
   exact .inr ⟨i, hi, h3, e3, by omega⟩
structure InsAt (l : List Lp) (x : Lp) (j : Nat) : Prop where
 le : j ≤ l.length
 lt : ∀ i y, i < j → l[i]? = some y → lpLt y x
theorem InsAt.zero (l : List Lp) (x : Lp) : InsAt l x 0 := ⟨Nat.zero_le _, fun i y h => absurd h (Nat.not_lt_zero i)⟩
theorem InsAt.next {l : List Lp} {x y : Lp} {j : Nat} (h : InsAt l x j) (hy : l[j]? = some y) (hlt : lpLt y x) : InsAt l x (j + 1) :=
 ⟨(List.getElem?_eq_some_iff.1 hy).1, fun i z hi hz => by
  by_cases e : i = j
  ·subst e; rw [hy] at hz; obtain rfl := Option.some.inj hz; exact hlt
  ·exact h.lt i z (by omega) hz⟩
theorem ins_sorted {l : List Lp} {x : Lp} {j : Nat} (hl : l.Pairwise lpLt) (h : InsAt l x j) (hj : ∀ y, l[j]? = some y → ¬ lpLt y x) (hx : x ∉ l) : (l.take j ++ x :: l.drop j).Pairwise lpLt := by
 have hg := List.pairwise_iff_getElem.1 hl
 rw [List.pairwise_append, List.pairwise_cons]
 refine ⟨hl.sublist (List.take_sublist _ _), ⟨fun y hy => ?_, hl.sublist (List.drop_sublist _ _)⟩, fun a ha b hb => ?_⟩
 ·obtain ⟨i, hi⟩ := List.getElem?_of_mem hy
  rw [List.getElem?_drop] at hi
  obtain ⟨h1, e1⟩ := List.getElem?_eq_some_iff.1 hi
  have hjl : j < l.length := by omega
  have h2 := hj _ (List.getElem?_eq_getElem hjl)
  have h3 : lpLt x l[j] := by
   by_cases q : lpLt x l[j]
   ·exact q
   ·exact absurd (lp_tot q h2 ▸ List.getElem_mem hjl) hx
  by_cases e : i = 0
  ·subst e; rw [← e1]; exact h3
  ·rw [← e1]; exact lp_trans h3 (hg j (j + i) hjl h1 (by omega))
 ·have hax : lpLt a x := by
   obtain ⟨i, hi⟩ := List.getElem?_of_mem ha
   have hil := (List.getElem?_eq_some_iff.1 hi).1
   rw [List.length_take] at hil
   rw [List.getElem?_take_of_lt (by omega)] at hi
   exact h.lt i a (by omega) hi
  rcases List.mem_cons.1 hb with e | hb
  ·subst e; exact hax
  ·have h4 : (l.take j ++ l.drop j).Pairwise lpLt := by rw [List.take_append_drop]; exact hl
   exact (List.pairwise_append.1 h4).2.2 a ha b hb
structure RLap (D : List Lp) (now to k : Nat) (out : List Lp) : Prop where
 ord : out.Pairwise lpLt
 mem : ∀ x, x ∈ out ↔ x ∈ D.take k ∧ now < x.at_ ∧ x.at_ ≤ to
 len : out.length ≤ k
theorem RLap.nil (D : List Lp) (now to : Nat) : RLap D now to 0 [] := ⟨.nil, fun x => by simp, Nat.le_refl _⟩
theorem take_next {α : Type} {l : List α} {k : Nat} {x : α} (h : l[k]? = some x) : l.take (k + 1) = l.take k ++ [x] := by
 obtain ⟨h2, rfl⟩ := List.getElem?_eq_some_iff.1 h
 rw [List.take_append_getElem]
theorem RLap.skip {k : Nat} {out : List Lp} (h : RLap D now to k out) {x : Lp} (hx : D[k]? = some x) (hn : ¬ (now < x.at_ ∧ x.at_ ≤ to)) : RLap D now to (k + 1) out := by
 refine ⟨h.ord, fun y => ?_, by have := h.len; omega⟩
 rw [h.mem, take_next hx, List.mem_append, List.mem_singleton]
 constructor
 ·rintro ⟨q1, q2⟩; exact ⟨.inl q1, q2⟩
 ·rintro ⟨q1 | rfl, q2⟩
  ·exact ⟨q1, q2⟩
  ·exact absurd q2 hn
theorem RLap.ins {k j : Nat} {out : List Lp} (h : RLap D now to k out) (hr : RD f D) {x : Lp} (hx : D[k]? = some x) (hn : now < x.at_ ∧ x.at_ ≤ to) (hi : InsAt out x j) (hj : ∀ y, out[j]? = some y → ¬ lpLt y x) : RLap D now to (k + 1) (out.take j ++ x :: out.drop j) := by
 have hxo : x ∉ out := fun hm => by
  obtain ⟨q1, _⟩ := (h.mem x).1 hm
  obtain ⟨i, hi⟩ := List.getElem?_of_mem q1
  have hil := (List.getElem?_eq_some_iff.1 hi).1
  rw [List.length_take] at hil
  rw [List.getElem?_take_of_lt (by omega)] at hi
  have := hr.one hi hx rfl rfl
  omega
 refine ⟨ins_sorted h.ord hi hj hxo, fun y => ?_, ?_⟩
 ·have e : y ∈ out.take j ++ x :: out.drop j ↔ y = x ∨ y ∈ out := by
   rw [List.mem_append, List.mem_cons]
   conv => rhs; rw [← List.take_append_drop j out, List.mem_append]
   constructor
   ·rintro (q | q | q)
    ·exact .inr (.inl q)
    ·exact .inl q
    ·exact .inr (.inr q)
   ·rintro (q | q | q)
    ·exact .inr (.inl q)
    ·exact .inl q
    ·exact .inr (.inr q)
  rw [e, h.mem, take_next hx, List.mem_append, List.mem_singleton]
  constructor
  ·rintro (rfl | ⟨q1, q2⟩)
   ·exact ⟨.inr rfl, hn⟩
   ·exact ⟨.inl q1, q2⟩
  ·rintro ⟨q1 | rfl, q2⟩
   ·exact .inr ⟨q1, q2⟩
   ·exact .inl rfl
 ·have := h.len
  have := hi.le
  rw [List.length_append, List.length_cons, List.length_take, List.length_drop]
  omega
theorem RLap.done {out : List Lp} (h : RLap D now to D.length out) (hr : RD f D) (hto : to < 18446744073709551615) : IsLap f now to out := by
 refine ⟨h.ord, fun x => ?_⟩
 rw [h.mem, List.take_length]
 constructor
 ·rintro ⟨q1, q2, q3⟩
  obtain ⟨i, hi, rfl, hk⟩ := hr.inn x q1
  exact ⟨i, hi, q2, q3, rfl⟩
 ·rintro ⟨i, hi, q2, q3, rfl⟩
  exact ⟨hr.all i hi (by omega), q2, q3⟩
end
end Go.Proofs.YtbkdebnkoidicaaGreat.Dr
end
section
set_option linter.unusedVariables false
set_option maxRecDepth 20000
set_option maxHeartbeats 1000000
namespace Go.Proofs.YtbkdebnkoidicaaGreat.Dr
theorem spot_ok (fd dir : Int) : Spec Tryz.prog 167 [.agg #[.int .i64 (fd), .int .i64 (dir)]] [] (fun r H' => r = .bool (decide (spotE fd dir = 0)) ∧ H' = []) := by
 refine Spec.of (E := [(0, .agg #[.int .i64 (fd), .int .i64 (dir)])]) Tryz.func167 rfl (by kernel_rfl) Tryz.ntmps167 rfl rfl (fun w => ?_)
 refine WC_seq (WC_region ?_)
 refine WL_do rfl rfl rfl (D_box (cs := [_, _]) rfl rfl rfl) ?_
 rintro _ _ ⟨b1, rfl, rfl⟩
 refine WLa rfl (WL_nil (WQ_code (WC_seq (WC_region ?_))))
 refine WL_val rfl rfl rfl (R_fieldAddr rfl fa108_0 rfl) ?_
 refine WL_val rfl rfl rfl (R_load rfl sc3 rfl (mmY) rfl) ?_
 refine WL_val rfl rfl rfl (R_geq rfl rfl rfl) ?_
 refine WLa rfl ?_
 refine WL_splitD (s := 6) rfl (fun c1 => ?_) (fun c1 => ?_)
 ·refine WL_val rfl rfl rfl (R_fieldAddr rfl fa108_0 rfl) ?_
  refine WL_val rfl rfl rfl (R_load rfl sc3 rfl (mmY) rfl) ?_
  refine WL_val rfl rfl rfl (R_leq rfl rfl rfl) ?_
  refine WLa rfl (WLa rfl ?_)
  refine WL_splitD (s := 11) rfl (fun c2 => ?_) (fun c2 => ?_)
  ·refine WL_val rfl rfl rfl (R_fieldAddr rfl fa108_1 rfl) ?_
   refine WL_val rfl rfl rfl (R_load rfl sc44 rfl (mmY) rfl) ?_
   refine WL_val rfl rfl rfl (R_eql rfl rfl rfl) ?_
   refine WLa rfl ?_
   refine WL_splitD (s := 15) rfl (fun c3 => ?_) (fun c3 => ?_)
   ·refine WL_skip rfl rfl rfl ?_
    refine WL_skip rfl rfl rfl ?_
    refine WL_skip rfl rfl rfl ?_
    refine WLa rfl (WLa rfl (WLa rfl (WL_nil (WQ_code (WC_ret ?_)))))
    refine WQ_ret rfl rfl (.cons (.tmp rfl) .nil) rfl (by
      exact ⟨congrArg Value.bool (by unfold spotE; (repeat split) <;> simp_all <;> omega), rfl⟩) (pqY)
   ·refine WL_val rfl rfl rfl (R_fieldAddr rfl fa108_1 rfl) ?_
    refine WL_val rfl rfl rfl (R_load rfl sc44 rfl (mmY) rfl) ?_
    refine WL_val rfl rfl rfl (R_eql rfl rfl rfl) ?_
    refine WLa rfl (WLa rfl (WLa rfl (WL_nil (WQ_code (WC_ret ?_)))))
    refine WQ_ret rfl rfl (.cons (.tmp rfl) .nil) rfl (by
      exact ⟨congrArg Value.bool (by unfold spotE; (repeat split) <;> simp_all <;> omega), rfl⟩) (pqY)
  ·refine WL_skip rfl rfl rfl ?_
   refine WL_skip rfl rfl rfl ?_
   refine WL_skip rfl rfl rfl ?_
   refine WL_skip rfl rfl rfl ?_
   refine WL_skip rfl rfl rfl ?_
   refine WL_skip rfl rfl rfl ?_
   refine WL_skip rfl rfl rfl ?_
   refine WL_skip rfl rfl rfl ?_
   refine WLa rfl (WLa rfl (WL_nil (WQ_code (WC_ret ?_))))
   refine WQ_ret rfl rfl (.cons (.tmp rfl) .nil) rfl (by
     exact ⟨congrArg Value.bool (by unfold spotE; (repeat split) <;> simp_all <;> omega), rfl⟩) (pqY)
 ·refine WL_skip rfl rfl rfl ?_
  refine WL_skip rfl rfl rfl ?_
  refine WL_skip rfl rfl rfl ?_
  refine WLa rfl (WLa rfl ?_)
  refine WL_skip rfl rfl rfl ?_
  refine WL_skip rfl rfl rfl ?_
  refine WL_skip rfl rfl rfl ?_
  refine WL_skip rfl rfl rfl ?_
  refine WL_skip rfl rfl rfl ?_
  refine WL_skip rfl rfl rfl ?_
  refine WL_skip rfl rfl rfl ?_
  refine WL_skip rfl rfl rfl ?_
  refine WLa rfl (WLa rfl (WL_nil (WQ_code (WC_ret ?_))))
  refine WQ_ret rfl rfl (.cons (.tmp rfl) .nil) rfl (by
    exact ⟨congrArg Value.bool (by unfold spotE; (repeat split) <;> simp_all <;> omega), rfl⟩) (pqY)
theorem rpd_ok (a b : Nat) (hb : b < 18446744073709551615) : Spec Tryz.prog 130 [.int .u64 (a : Int), .int .u64 (b : Int)] [] (fun r H' => r = .bool (decide (a ≠ 18446744073709551615 ∧ a ≤ b)) ∧ H' = []) := by
 refine Spec.of (E := [(0, .int .u64 (a : Int)), (1, .int .u64 (b : Int))]) Tryz.func130 rfl (by kernel_rfl) Tryz.ntmps130 rfl rfl (fun w => ?_)
 refine WC_seq (WC_region (WLa rfl (WL_nil (WQ_code (WC_seq (WC_region (WLa rfl ?_)))))))
 refine WL_val rfl rfl rfl (R_neq rfl rfl rfl) ?_
 refine WLa rfl ?_
 refine WL_splitD (s := 7) rfl (fun c1 => ?_) (fun c1 => ?_)
 ·refine WLa rfl ?_
  refine WL_val rfl rfl rfl (R_neq rfl rfl rfl) ?_
  refine WLa rfl (WLa rfl ?_)
  refine WL_splitD (s := 11) rfl (fun c2 => ?_) (fun c2 => ?_)
  ·refine WLa rfl (WLa rfl ?_)
   refine WL_val rfl rfl rfl (R_leq rfl rfl rfl) ?_
   refine WLa rfl (WLa rfl (WL_nil (WQ_code (WC_ret ?_))))
   refine WQ_ret rfl rfl (.cons (.tmp rfl) .nil) rfl (by
     exact ⟨congrArg Value.bool (by simp_all <;> omega), rfl⟩) (pqY)
  ·refine WL_skip rfl rfl rfl ?_
   refine WL_skip rfl rfl rfl ?_
   refine WL_skip rfl rfl rfl ?_
   refine WLa rfl (WLa rfl (WL_nil (WQ_code (WC_ret ?_))))
   refine WQ_ret rfl rfl (.cons (.tmp rfl) .nil) rfl (by
     exact ⟨congrArg Value.bool (by simp_all <;> omega), rfl⟩) (pqY)
 ·refine WL_skip rfl rfl rfl ?_
  refine WL_skip rfl rfl rfl ?_
  refine WLa rfl (WLa rfl ?_)
  refine WL_skip rfl rfl rfl ?_
  refine WL_skip rfl rfl rfl ?_
  refine WL_skip rfl rfl rfl ?_
  refine WLa rfl (WLa rfl (WL_nil (WQ_code (WC_ret ?_))))
  refine WQ_ret rfl rfl (.cons (.tmp rfl) .nil) rfl (by
    exact ⟨congrArg Value.bool (by simp_all <;> omega), rfl⟩) (pqY)
theorem rpdn_ok (a b : Nat) (hb : b < 18446744073709551615) : Spec Tryz.prog 130 [.int .u64 (a : Int), .int .u64 (b : Int)] [] (fun r H' => r = .bool (decide (a ≤ b)) ∧ H' = []) :=
 (rpd_ok a b hb).mono fun r H' ⟨e1, e2⟩ => ⟨by rw [e1]; congr 1; rw [decide_eq_decide]; omega, e2⟩
theorem rless_ok (x y : Lp) : Spec Tryz.prog 172 [.agg (encLp x).toArray, .agg (encLp y).toArray] [] (fun r H' => r = .bool (decide (lpLt x y)) ∧ H' = []) := by
 refine Spec.of (E := [(0, .agg (encLp x).toArray), (1, .agg (encLp y).toArray)]) Tryz.func172 rfl (by kernel_rfl) Tryz.ntmps172 rfl rfl (fun w => ?_)
 refine WC_seq (WC_region ?_)
 refine WL_do rfl rfl rfl (D_box (cs := [_, _, _]) rfl rfl rfl) ?_
 rintro _ _ ⟨b1, rfl, rfl⟩
 refine WL_do rfl rfl rfl (D_box (cs := [_, _, _]) rfl rfl rfl) ?_
 rintro _ _ ⟨b2, rfl, rfl⟩
 refine WLa rfl (WL_nil (WQ_code (WC_seq (WC_seq (WC_region ?_)))))
 refine WL_val rfl rfl rfl (R_fieldAddr rfl fa117_1 rfl) ?_
 refine WL_val rfl rfl rfl (R_load rfl sc28 rfl (mmY) rfl) ?_
 refine WL_val rfl rfl rfl (R_fieldAddr rfl fa117_1 rfl) ?_
 refine WL_val rfl rfl rfl (R_load rfl sc28 rfl (mmY) rfl) ?_
 refine WL_val rfl rfl rfl (R_neq rfl rfl rfl) ?_
 refine WL_nil (WQ_code ?_)
 refine WC_dec rfl (fun c1 => ?_) (fun c1 => ?_)
 ·refine WC_seq (WC_region ?_)
  refine WL_val rfl rfl rfl (R_fieldAddr rfl fa117_1 rfl) ?_
  refine WL_val rfl rfl rfl (R_load rfl sc28 rfl (mmY) rfl) ?_
  refine WL_val rfl rfl rfl (R_fieldAddr rfl fa117_1 rfl) ?_
  refine WL_val rfl rfl rfl (R_load rfl sc28 rfl (mmY) rfl) ?_
  refine WL_val rfl rfl rfl (R_lss rfl rfl rfl) ?_
  refine WLa rfl (WL_nil (WQ_code (WC_ret ?_)))
  refine WQ_ret rfl rfl (.cons (.tmp rfl) .nil) rfl (by
    exact ⟨congrArg Value.bool (decide_eq_decide.2 (by unfold lpLt; omega)), rfl⟩) (pqY)
 ·refine WC_skip (WQ_code (WC_seq (WC_seq (WC_region ?_))))
  refine WL_val rfl rfl rfl (R_fieldAddr rfl fa117_0 rfl) ?_
  refine WL_val rfl rfl rfl (R_fieldAddr rfl fa108_0 rfl) ?_
  refine WL_val rfl rfl rfl (R_load rfl sc3 rfl (mmY) rfl) ?_
  refine WL_val rfl rfl rfl (R_fieldAddr rfl fa117_0 rfl) ?_
  refine WL_val rfl rfl rfl (R_fieldAddr rfl fa108_0 rfl) ?_
  refine WL_val rfl rfl rfl (R_load rfl sc3 rfl (mmY) rfl) ?_
  refine WL_val rfl rfl rfl (R_neq rfl rfl rfl) ?_
  refine WL_nil (WQ_code ?_)
  refine WC_dec rfl (fun c2 => ?_) (fun c2 => ?_)
  ·refine WC_seq (WC_region ?_)
   refine WL_val rfl rfl rfl (R_fieldAddr rfl fa117_0 rfl) ?_
   refine WL_val rfl rfl rfl (R_fieldAddr rfl fa108_0 rfl) ?_
   refine WL_val rfl rfl rfl (R_load rfl sc3 rfl (mmY) rfl) ?_
   refine WL_val rfl rfl rfl (R_fieldAddr rfl fa117_0 rfl) ?_
   refine WL_val rfl rfl rfl (R_fieldAddr rfl fa108_0 rfl) ?_
   refine WL_val rfl rfl rfl (R_load rfl sc3 rfl (mmY) rfl) ?_
   refine WL_val rfl rfl rfl (R_lss rfl rfl rfl) ?_
   refine WLa rfl (WL_nil (WQ_code (WC_ret ?_)))
   refine WQ_ret rfl rfl (.cons (.tmp rfl) .nil) rfl (by
     exact ⟨congrArg Value.bool (decide_eq_decide.2 (by unfold lpLt; omega)), rfl⟩) (pqY)
  ·refine WC_skip (WQ_code (WC_seq (WC_region ?_)))
   refine WL_val rfl rfl rfl (R_fieldAddr rfl fa117_0 rfl) ?_
   refine WL_val rfl rfl rfl (R_fieldAddr rfl fa108_1 rfl) ?_
   refine WL_val rfl rfl rfl (R_load rfl sc44 rfl (mmY) rfl) ?_
   refine WL_val rfl rfl rfl (R_fieldAddr rfl fa117_0 rfl) ?_
   refine WL_val rfl rfl rfl (R_fieldAddr rfl fa108_1 rfl) ?_
   refine WL_val rfl rfl rfl (R_load rfl sc44 rfl (mmY) rfl) ?_
   refine WL_val rfl rfl rfl (R_lss rfl rfl rfl) ?_
   refine WLa rfl (WL_nil (WQ_code (WC_ret ?_)))
   refine WQ_ret rfl rfl (.cons (.tmp rfl) .nil) rfl (by
     exact ⟨congrArg Value.bool (decide_eq_decide.2 (by unfold lpLt; omega)), rfl⟩) (pqY)
abbrev encT (x : Nat) : List Value := [.int .u64 (x : Int)]
theorem encT1 (x : Nat) : (encT x).length = 1 := rfl
structure MnW where
 j : Nat
 m : Nat
theorem rmin_ok (l : List Nat) (hl : l.length ≤ 100000) (o : Option Nat) (c : Nat) (tl : List Value) (own : Own o l.length c 1 (l.flatMap encT) tl) : Spec Tryz.prog 131 [slV o l.length c] [⟨o, cl (l.flatMap encT ++ tl) 28⟩] (fun r H' => r = .int .u64 (minL l : Int) ∧ H' = [⟨o, cl (l.flatMap encT ++ tl) 28⟩]) := by
 refine Spec.of (E := [(0, slV o l.length c)]) Tryz.func131 rfl (by kernel_rfl) Tryz.ntmps131 rfl rfl (fun w => ?_)
 refine WC_seq (WC_region (WLa rfl (WL_nil (WQ_code (WC_seq (WC_region (WLa rfl (WL_nil (WQ_code (WC_seq (WC_seq (WC_region (WLa rfl (WL_nil (WQ_code (WC_block ?_))))))))))))))))
 refine WC_loopF (G := MnW) [3, 4, 5, 6, 7, 8, 9, 10, 11, 12, 13, 14, 15, 16, 17, 18, 19, 20] (fun y => y.j ≤ l.length ∧ y.m = minL (l.take y.j)) (fun y => [(4, .int .i64 (y.j : Int)), (3, .int .u64 (y.m : Int))]) (fun y => []) (fun y => l.length - y.j) (⟨0, 18446744073709551615⟩) (⟨Nat.zero_le _, rfl⟩) leZ (pqY) ?_
 rintro y ⟨hj, hm⟩
 refine WC_seq (WC_seq (WC_region (WLa rfl (WLa rfl ?_))))
 refine WL_val rfl rfl rfl (R_len rfl Tryz.underlying225 rfl) ?_
 refine WL_val rfl rfl rfl (R_lss rfl rfl rfl) ?_
 refine WL_nil (WQ_code ?_)
 refine WC_dec rfl (fun c1 => ?_) (fun c1 => ?_)
 ·refine WC_skip (WQ_code (WC_seq (WC_block (WC_seq (WC_region ?_)))))
  obtain ⟨x, hx⟩ := exE (T := l) (i := y.j) (by omega)
  obtain ⟨p1, rfl⟩ := own.some_of (by omega)
  refine WLa rfl (WLa rfl ?_)
  refine WL_val rfl rfl rfl (R_indexAddrN rfl Tryz.underlying225 Tryz.sizeOf28 rfl rfl (by omega)) ?_
  refine WL_val rfl rfl rfl (R_load (v := .int .u64 (x : Int)) rfl sc28 rfl (mmY) (fm_get0 encT1 hx (j := 0) (by omega))) ?_
  refine WLa rfl ?_
  refine WL_val rfl rfl rfl (R_lss rfl rfl rfl) ?_
  refine WL_nil (WQ_code ?_)
  refine WC_dec rfl (fun c2 => ?_) (fun c2 => ?_)
  ·refine WC_region (WLa rfl (WLa rfl ?_))
   refine WL_val rfl rfl rfl (R_indexAddrN rfl Tryz.underlying225 Tryz.sizeOf28 rfl rfl (by omega)) ?_
   refine WL_val rfl rfl rfl (R_load (v := .int .u64 (x : Int)) rfl sc28 rfl (mmY) (fm_get0 encT1 hx (j := 0) (by omega))) ?_
   refine WLa rfl (WL_nil (WQ_code (WC_region (WLa rfl ?_))))
   refine WL_val rfl rfl rfl (R_add rfl rfl rfl (by omega)) ?_
   refine WLa rfl (WL_nil ?_)
   refine WQ_nextF (⟨y.j + 1, x⟩) (⟨by dsimp only; omega, by dsimp only; rw [tk_next hx, minL_snoc, ← hm]; exact (Nat.min_eq_right (by omega)).symm⟩) (by dsimp only; omega) leZ (psZ) rfl (pqY)
  ·refine WC_skip (WQ_code (WC_region (WLa rfl ?_)))
   refine WL_val rfl rfl rfl (R_add rfl rfl rfl (by omega)) ?_
   refine WLa rfl (WL_nil ?_)
   refine WQ_nextF (⟨y.j + 1, y.m⟩) (⟨by dsimp only; omega, by dsimp only; rw [tk_next hx, minL_snoc, ← hm]; exact (Nat.min_eq_left (by omega)).symm⟩) (by dsimp only; omega) leZ (psZ) rfl (pqY)
 ·refine WC_exit (WQ_code (WC_seq (WC_region (WLa rfl (WLa rfl (WL_nil (WQ_code (WC_ret ?_))))))))
  refine WQ_ret rfl rfl (.cons (.tmp rfl) .nil) rfl (by
    exact ⟨by rw [hm, List.take_of_length_le (show l.length ≤ y.j by omega)]; rfl, rfl⟩) (pqY)
theorem rnew_ok (now : Nat) (h : now < 18446744073709551615) : Spec Tryz.prog 60 [.int .u64 (now : Int)] [] (fun r H' => r = .tuple #[.agg #[.int .u64 (now : Int), .slice none 0 0], .int .i64 0] ∧ H' = []) := by
 refine Spec.of (E := [(0, .int .u64 (now : Int))]) Tryz.func60 rfl (by kernel_rfl) Tryz.ntmps60 rfl rfl (fun w => ?_)
 refine WC_seq (WC_region ?_)
 refine WL_do rfl rfl rfl (D_alloc rfl zv74) ?_
 rintro _ _ ⟨b1, rfl, rfl⟩
 refine WLa rfl (WL_nil (WQ_code (WC_seq (WC_seq (WC_region (WLa rfl ?_))))))
 refine WL_val rfl rfl rfl (R_eql rfl rfl rfl) ?_
 refine WL_nil (WQ_code ?_)
 refine WC_dF rfl (by omega) ?_
 refine WC_skip (WQ_code (WC_seq (WC_region (WLa rfl ?_))))
 refine WL_val rfl rfl rfl (R_build rfl zv74 pl74 rfl rfl) ?_
 refine WL_do0 rfl rfl (D_store (vs := [_, _]) rfl Tryz.sizeOf74 rfl rfl rfl rfl rfl (plY) (Nat.le_of_ble_eq_true rfl)) ?_
 rintro _ _ rfl
 refine WLa rfl (WL_nil (WQ_code (WC_ret ?_)))
 refine WQ_ret rfl rfl (.cons (.cell (vs := [_, _]) rfl ag74 (mmY) rfl (atZ)) (.cons (.tmp rfl) .nil)) rfl (by
   exact ⟨rfl, rfl⟩) (pqY)
theorem rnew_bad : Spec Tryz.prog 60 [.int .u64 18446744073709551615] [] (fun r H' => r = .tuple #[.agg #[.int .u64 0, .slice none 0 0], .int .i64 2] ∧ H' = []) := by
 refine Spec.of (E := [(0, .int .u64 18446744073709551615)]) Tryz.func60 rfl (by kernel_rfl) Tryz.ntmps60 rfl rfl (fun w => ?_)
 refine WC_seq (WC_region ?_)
 refine WL_do rfl rfl rfl (D_alloc rfl zv74) ?_
 rintro _ _ ⟨b1, rfl, rfl⟩
 refine WLa rfl (WL_nil (WQ_code (WC_seq (WC_seq (WC_region (WLa rfl ?_))))))
 refine WL_val rfl rfl rfl (R_eql rfl rfl rfl) ?_
 refine WL_nil (WQ_code ?_)
 refine WC_dT rfl (by rfl) ?_
 refine WC_seq (WC_region ?_)
 refine WL_val rfl rfl rfl (R_build rfl zv74 pl74 rfl rfl) ?_
 refine WL_do0 rfl rfl (D_store (vs := [_, _]) rfl Tryz.sizeOf74 rfl rfl rfl rfl rfl (plY) (Nat.le_of_ble_eq_true rfl)) ?_
 rintro _ _ rfl
 refine WLa rfl (WL_nil (WQ_code (WC_ret ?_)))
 refine WQ_ret rfl rfl (.cons (.cell (vs := [_, _]) rfl ag74 (mmY) rfl (atZ)) (.cons (.tmp rfl) .nil)) rfl (by
   exact ⟨rfl, rfl⟩) (pqY)
end Go.Proofs.YtbkdebnkoidicaaGreat.Dr
end
section
set_option linter.unusedVariables false
set_option maxRecDepth 20000
set_option maxHeartbeats 2000000
namespace Go.Proofs.YtbkdebnkoidicaaGreat.Dr
structure RnW10 where
 j : Nat
 o : List Nat
 ob : Option Nat
 c : Nat
 tl : List Value
structure RsW where
 j : Nat
 o : List Lp
 ob : Option Nat
 c : Nat
 tl : List Value
section
variable {f : Nat → Nat} {now : Nat}
theorem rset_bad (D : List Lp) (ob : Option Nat) (c : Nat) (tl : List Value) (hr : RD f D) (own : Own ob D.length c 3 (D.flatMap encLp) tl) (fd dir : Int) (h : spotE fd dir = 2) (k : Nat) : Spec Tryz.prog 126 [.agg #[.int .u64 (now : Int), slV ob D.length c], .agg #[.int .i64 (fd), .int .i64 (dir)], .int .u64 (k : Int)] [⟨ob, cl (D.flatMap encLp ++ tl) 117⟩] (fun r H' => r = .tuple #[.agg #[.int .u64 (now : Int), slV ob D.length c], .bool false, .int .i64 2] ∧ H' = [⟨ob, cl (D.flatMap encLp ++ tl) 117⟩]) := by
 refine Spec.of (E := [(0, .agg #[.int .u64 (now : Int), slV ob D.length c]), (1, .agg #[.int .i64 (fd), .int .i64 (dir)]), (2, .int .u64 (k : Int))]) Tryz.func126 rfl (by kernel_rfl) Tryz.ntmps126 rfl rfl (fun w => ?_)
 refine WC_seq (WC_region ?_)
 refine WL_do rfl rfl rfl (D_box (cs := [_, _]) rfl rfl rfl) ?_
 rintro _ _ ⟨b1, rfl, rfl⟩
 refine WL_do rfl rfl rfl (D_box (cs := [_, _]) rfl rfl rfl) ?_
 rintro _ _ ⟨b2, rfl, rfl⟩
 refine WL_do rfl rfl rfl (D_alloc rfl zv74) ?_
 rintro _ _ ⟨b3, rfl, rfl⟩
 refine WLa rfl (WLa rfl (WL_nil (WQ_code (WC_seq (WC_seq (WC_region ?_))))))
 refine WL_val rfl rfl rfl (R_loadA (vs := [_, _]) rfl ag108 rfl (mmY) rfl (atZ)) ?_
 refine WL_do rfl rfl rfl (D_call (spot_ok fd dir) rfl rfl rfl rfl (pqY)) ?_
 rintro _ _ ⟨_, ⟨rfl, rfl⟩, rfl⟩
 refine WL_val rfl rfl rfl (R_notD rfl rfl) ?_
 refine WL_nil (WQ_code ?_)
 refine WC_dT rfl (by rw [h]; decide) ?_
 refine WC_seq (WC_region ?_)
 refine WL_val rfl rfl rfl (R_loadA (vs := [_, _]) rfl ag74 rfl (mmY) rfl (atZ)) ?_
 refine WL_do0 rfl rfl (D_store (vs := [_, _]) rfl Tryz.sizeOf74 rfl rfl rfl rfl rfl (plY) (Nat.le_of_ble_eq_true rfl)) ?_
 rintro _ _ rfl
 refine WLa rfl (WLa rfl (WL_nil (WQ_code (WC_ret ?_))))
 refine WQ_ret rfl rfl (.cons (.cell (vs := [_, _]) rfl ag74 (mmY) rfl (atZ)) (.cons (.tmp rfl) (.cons (.tmp rfl) .nil))) rfl (by
   exact ⟨rfl, rfl⟩) (pqY)
theorem rset_ok (D : List Lp) (ob : Option Nat) (c : Nat) (tl : List Value) (hr : RD f D) (own : Own ob D.length c 3 (D.flatMap encLp) tl) (hnow : now < 18446744073709551615) (fd dir : Nat) (h1 : fd < 128) (h2 : dir < 2) (k : Nat) (hk : k ≤ 18446744073709551615) : Spec Tryz.prog 126 [.agg #[.int .u64 (now : Int), slV ob D.length c], .agg #[.int .i64 (fd : Int), .int .i64 (dir : Int)], .int .u64 (k : Int)] [⟨ob, cl (D.flatMap encLp ++ tl) 117⟩]
  (fun r H' => ∃ (D' : List Lp) (ob' : Option Nat) (c' : Nat) (tl' : List Value), r = .tuple #[.agg #[.int .u64 (now : Int), slV ob' D'.length c'], .bool (decide (k ≠ 18446744073709551615 ∧ k ≤ now)), .int .i64 0] ∧ Own ob' D'.length c' 3 (D'.flatMap encLp) tl' ∧ RD (updF f (2 * fd + dir) k) D' ∧ H' = [⟨ob', cl (D'.flatMap encLp ++ tl') 117⟩, ⟨ob, cl (D.flatMap encLp ++ tl) 117⟩]) := by
 have hlen := hr.len
 have hsp : spotE (fd : Int) (dir : Int) = 0 := by unfold spotE; split <;> omega
 have e1 : ((2 * fd + dir) / 2 : Nat) = fd := by omega
 have e2 : ((2 * fd + dir) % 2 : Nat) = dir := by omega
 refine Spec.of (E := [(0, .agg #[.int .u64 (now : Int), slV ob D.length c]), (1, .agg #[.int .i64 (fd : Int), .int .i64 (dir : Int)]), (2, .int .u64 (k : Int))]) Tryz.func126 rfl (by kernel_rfl) Tryz.ntmps126 rfl rfl (fun w => ?_)
 refine WC_seq (WC_region ?_)
 refine WL_do rfl rfl rfl (D_box (cs := [_, _]) rfl rfl rfl) ?_
 rintro _ _ ⟨b1, rfl, rfl⟩
 refine WL_do rfl rfl rfl (D_box (cs := [_, _]) rfl rfl rfl) ?_
 rintro _ _ ⟨b2, rfl, rfl⟩
 refine WL_do rfl rfl rfl (D_alloc rfl zv74) ?_
 rintro _ _ ⟨b3, rfl, rfl⟩
 refine WLa rfl (WLa rfl (WL_nil (WQ_code (WC_seq (WC_seq (WC_region ?_))))))
 refine WL_val rfl rfl rfl (R_loadA (vs := [_, _]) rfl ag108 rfl (mmY) rfl (atZ)) ?_
 refine WL_do rfl rfl rfl (D_call (spot_ok (fd : Int) (dir : Int)) rfl rfl rfl rfl (pqY)) ?_
 rintro _ _ ⟨_, ⟨rfl, rfl⟩, rfl⟩
 refine WL_val rfl rfl rfl (R_notD rfl rfl) ?_
 refine WL_nil (WQ_code ?_)
 refine WC_dF rfl (by rw [hsp]; decide) ?_
 refine WC_skip (WQ_code (WC_seq (WC_region ?_)))
 refine WL_val rfl rfl rfl (R_fieldAddr rfl fa74_0 rfl) ?_
 refine WL_val rfl rfl rfl (R_load rfl sc28 rfl (mmY) rfl) ?_
 refine WL_val rfl rfl rfl (R_build rfl zv74 pl74 rfl rfl) ?_
 refine WL_do rfl rfl rfl (D_alloc rfl zv74) ?_
 rintro _ _ ⟨b4, rfl, rfl⟩
 refine WL_do0 rfl rfl (D_store (vs := [_, _]) rfl Tryz.sizeOf74 rfl rfl rfl rfl rfl (plY) (Nat.le_of_ble_eq_true rfl)) ?_
 rintro _ _ rfl
 refine WL_nil (WQ_code (WC_seq (WC_seq (WC_region (WLa rfl (WL_nil (WQ_code (WC_block ?_))))))))
 refine WC_none 117 ?_
 refine WC_loopF (G := RsW) [10, 18, 19, 20, 21, 22, 23, 24, 25, 26, 27, 28, 29, 30, 31, 32, 33, 34, 35, 36, 37, 38, 39, 40, 41, 42] (fun y => y.j ≤ D.length ∧ y.o = dropP (D.take y.j) (fd : Int) (dir : Int) ∧ Own y.ob y.o.length y.c 3 (y.o.flatMap encLp) y.tl) (fun y => [(10, .int .i64 (y.j : Int))]) (fun y => [⟨some b4, cl [.int .u64 (now : Int), slV y.ob y.o.length y.c] 74⟩, ⟨y.ob, cl (y.o.flatMap encLp ++ y.tl) 117⟩]) (fun y => D.length - y.j) (⟨0, [], none, 0, []⟩) (⟨Nat.zero_le _, rfl, Own.empty 3⟩) leZ (pqY) ?_
 rintro y ⟨hj, ho, hw⟩
 have hol : y.o.length ≤ 256 := by rw [ho]; exact Nat.le_trans (List.length_filter_le _ _) (by rw [List.length_take]; omega)
 refine WC_seq (WC_seq (WC_region (WLa rfl ?_)))
 refine WL_val rfl rfl rfl (R_fieldAddr rfl fa74_1 rfl) ?_
 refine WL_val rfl rfl rfl (R_load rfl sc72 rfl (mmY) rfl) ?_
 refine WL_val rfl rfl rfl (R_len rfl Tryz.underlying72 rfl) ?_
 refine WL_val rfl rfl rfl (R_lss rfl rfl rfl) ?_
 refine WL_nil (WQ_code ?_)
 refine WC_dec rfl (fun c1 => ?_) (fun c1 => ?_)
 ·refine WC_skip (WQ_code (WC_seq (WC_block (WC_seq ?_))))
  refine WC_draw _ [(0, true), (1, true), (2, true), (3, true), (4, true), (5, true), (6, true), (7, true)] followsMixed rfl rfl (by kernel_rfl) .all ?_
  obtain ⟨x, hx⟩ := exE (T := D) (i := y.j) (by omega)
  obtain ⟨bb, rfl⟩ := own.some_of (by omega)
  refine WM_val rfl rfl rfl rfl (R_fieldAddr rfl fa74_1 rfl) ?_
  refine WM_val rfl rfl rfl rfl (R_load rfl sc72 rfl (mmY) rfl) ?_
  refine WMa rfl ?_
  refine WM_val rfl rfl rfl rfl (R_indexAddrN rfl Tryz.underlying72 Tryz.sizeOf117 rfl rfl (by omega)) ?_
  refine WM_val rfl rfl rfl rfl (R_fieldAddr rfl fa117_0 rfl) ?_
  refine WM_val rfl rfl rfl rfl (R_loadA (vs := [.int .i64 x.fd, .int .i64 x.dir]) rfl ag108 rfl (mmY) rfl (fm_at0 encLp3 hx (j := 0) (vs := [.int .i64 x.fd, .int .i64 x.dir]) (atZ) (by simp))) ?_
  refine WM_val rfl rfl rfl rfl (R_loadA (vs := [_, _]) rfl ag108 rfl (mmY) rfl (atZ)) ?_
  refine WM_val rfl rfl rfl rfl (R_sne108 rfl rfl rfl rfl) ?_
  refine WM_nil (WQ_code ?_)
  refine WC_dec rfl (fun c2 => ?_) (fun c2 => ?_)
  ·refine WC_drawBR [⟨some b4, _⟩, ⟨(y.ob), _⟩] [(0, .q), (2, .q), (3, .q), (4, .q), (5, .q), (6, .q), (1, .n [7]), (7, .b []), (8, .n []), (9, .q), (10, .n [])] followsMixed rfl rfl (by kernel_rfl) (pqY) ?_
   refine WB_val rfl rfl rfl rfl (R_fieldAddr rfl fa74_1 rfl) ?_
   refine WB_val rfl rfl rfl rfl (R_fieldAddr rfl fa74_1 rfl) ?_
   refine WB_val rfl rfl rfl rfl (R_load rfl sc72 rfl (mmY) rfl) ?_
   refine WB_val rfl rfl rfl rfl (R_move rfl rfl) ?_
   refine WB_val rfl rfl rfl rfl (R_indexAddrN rfl Tryz.underlying72 Tryz.sizeOf117 rfl rfl (by omega)) ?_
   refine WB_val rfl rfl rfl rfl (R_loadA (vs := [.int .i64 x.fd, .int .i64 x.dir, .int .u64 (x.at_ : Int)]) rfl ag117 rfl (mmY) rfl (fm_at0 encLp3 hx (j := 0) (vs := [.int .i64 x.fd, .int .i64 x.dir, .int .u64 (x.at_ : Int)]) (atZ) (by simp))) ?_
   refine WB_do rfl rfl rfl rfl (.cons rfl rfl (B_buildSlice rfl si72 rfl rfl rfl) .nil) (fun _ => Runs.does (R_load rfl sc72 rfl (mmY) rfl)) ?_
   rintro _ _ ⟨rfl, rfl⟩
   refine ⟨⟨_, pqY⟩, ?_⟩
   refine WB_birth rfl rfl rfl rfl .nil (B_buildSlice rfl si72 rfl rfl rfl) (fun b5 => ?_)
   refine WB_do rfl rfl rfl rfl .nil (fun _ => D_append rfl si72 rfl (hw) (plY) rfl (mmY) ((atZ : At _ 0 [_, _, _])) (rfl) (rfl) (by omega) (by omega)) ?_
   rintro _ _ ⟨ob6, cap6, tl6, rfl, own6, rfl⟩
   refine ⟨⟨_, pqY⟩, ?_⟩
   rw [show y.o.flatMap encLp ++ [Value.int .i64 x.fd, .int .i64 x.dir, .int .u64 (x.at_ : Int)] = (y.o ++ [x]).flatMap encLp from by rw [List.flatMap_append]; rfl, show y.o.length + 1 = (y.o ++ [x]).length from by rw [List.length_append]; rfl] at *
   refine WB_val rfl rfl rfl rfl (R_fieldAddr rfl fa74_1 rfl) ?_
   refine WB_do0 rfl rfl rfl .nil (fun _ => D_store (vs := [_]) rfl Tryz.sizeOf72 rfl rfl rfl rfl rfl (plY) (Nat.le_of_ble_eq_true rfl)) ?_
   rintro _ _ rfl
   refine ⟨⟨_, pqY⟩, ?_⟩
   refine WB_nil (WQ_code (WC_region (WLa rfl ?_)))
   refine WL_val rfl rfl rfl (R_add rfl rfl rfl (by omega)) ?_
   refine WLa rfl (WL_nil ?_)
   refine WQ_nextF (⟨y.j + 1, y.o ++ [x], ob6, cap6, tl6⟩) (⟨by dsimp only; omega, by dsimp only; rw [tk_next hx, dropP_snoc, if_neg c2, ho], own6⟩) (by dsimp only; omega) leZ (psZ) rfl (pqY)
  ·have hsame : x.fd = (fd : Int) ∧ x.dir = (dir : Int) := by simpa using c2
   refine WC_skip (WQ_code (WC_region (WLa rfl ?_)))
   refine WL_val rfl rfl rfl (R_add rfl rfl rfl (by omega)) ?_
   refine WLa rfl (WL_nil ?_)
   refine WQ_nextF (⟨y.j + 1, y.o, y.ob, y.c, y.tl⟩) (⟨by dsimp only; omega, by dsimp only; rw [tk_next hx, dropP_snoc, if_pos hsame, List.append_nil, ho], hw⟩) (by dsimp only; omega) leZ (psZ) rfl (pqY)
 ·have hfin : y.o = dropP D (fd : Int) (dir : Int) := by rw [ho, List.take_of_length_le (by omega)]
  refine WC_exit (WQ_code (WC_seq (WC_seq (WC_region (WLa rfl ?_)))))
  refine WL_val rfl rfl rfl (R_neq rfl rfl rfl) ?_
  refine WL_nil (WQ_code ?_)
  refine WC_dec rfl (fun c3 => ?_) (fun c3 => ?_)
  ·refine WC_region ?_
   refine WL_val rfl rfl rfl (R_fieldAddr rfl fa74_1 rfl) ?_
   refine WL_val rfl rfl rfl (R_load rfl sc72 rfl (mmY) rfl) ?_
   refine WL_val rfl rfl rfl (R_loadA (vs := [_, _]) rfl ag108 rfl (mmY) rfl (atZ)) ?_
   refine WLa rfl ?_
   refine WL_val rfl rfl rfl (R_build rfl zv117 pl117 rfl rfl) ?_
   refine WL_do rfl rfl rfl (D_buildSlice rfl si72 rfl rfl rfl) ?_
   rintro _ _ ⟨b7, rfl, rfl⟩
   refine WL_do rfl rfl rfl (D_append rfl si72 rfl (hw) (plY) rfl (mmY) ((atZ : At _ 0 [_, _, _])) (rfl) (rfl) (by omega) (by omega)) ?_
   rintro _ _ ⟨ob8, cap8, tl8, rfl, own8, rfl⟩
   rw [show y.o.flatMap encLp ++ [Value.int .i64 (fd : Int), .int .i64 (dir : Int), .int .u64 (k : Int)] = (y.o ++ [(⟨(fd : Int), (dir : Int), k⟩ : Lp)]).flatMap encLp from by rw [List.flatMap_append]; rfl, show y.o.length + 1 = (y.o ++ [(⟨(fd : Int), (dir : Int), k⟩ : Lp)]).length from by rw [List.length_append]; rfl] at *
   refine WL_val rfl rfl rfl (R_fieldAddr rfl fa74_1 rfl) ?_
   refine WL_do0 rfl rfl (D_store (vs := [_]) rfl Tryz.sizeOf72 rfl rfl rfl rfl rfl (plY) (Nat.le_of_ble_eq_true rfl)) ?_
   rintro _ _ rfl
   refine WL_nil (WQ_code (WC_seq ?_))
   refine WC_drawR [⟨some b3, _⟩] [(0, true), (1, true), (2, true), (3, true), (4, true), (5, false), (6, true), (7, true)] followsMixed rfl rfl (by kernel_rfl) (pqY) ?_
   refine WM_val rfl rfl rfl rfl (R_loadA (vs := [_, _]) rfl ag74 rfl (mmY) rfl (atZ)) ?_
   refine WMa rfl ?_
   refine WM_val rfl rfl rfl rfl (R_fieldAddr rfl fa74_0 rfl) ?_
   refine WM_val rfl rfl rfl rfl (R_load rfl sc28 rfl (mmY) rfl) ?_
   refine WM_call rfl (Spec.quiet (rpd_ok k now hnow)) rfl rfl rfl rfl rfl rfl rfl (pqY) ?_
   refine WM_do0 rfl rfl rfl (D_store (vs := [_, _]) rfl Tryz.sizeOf74 rfl rfl rfl rfl rfl (plY) (Nat.le_of_ble_eq_true rfl)) ?_
   rintro _ _ rfl
   refine ⟨⟨_, pqY⟩, ?_⟩
   refine WMa rfl (WMa rfl (WM_nil (WQ_code (WC_ret ?_))))
   refine WQ_ret rfl rfl (.cons (.cell (vs := [_, _]) rfl ag74 (mmY) rfl (atZ)) (.cons (.tmp rfl) (.cons (.tmp rfl) .nil))) rfl (by
     exact ⟨y.o ++ [⟨(fd : Int), (dir : Int), k⟩], ob8, cap8, tl8, rfl, own8, by have h9 := hr.put (i := 2 * fd + dir) (k := k) (by omega) (by omega); rw [e1, e2, ← hfin] at h9; exact h9, rfl⟩) (pqY)
  ·refine WC_skip (WQ_code (WC_seq ?_))
   refine WC_drawR [⟨some b3, _⟩] [(0, true), (1, true), (2, true), (3, true), (4, true), (5, false), (6, true), (7, true)] followsMixed rfl rfl (by kernel_rfl) (pqY) ?_
   refine WM_val rfl rfl rfl rfl (R_loadA (vs := [_, _]) rfl ag74 rfl (mmY) rfl (atZ)) ?_
   refine WMa rfl ?_
   refine WM_val rfl rfl rfl rfl (R_fieldAddr rfl fa74_0 rfl) ?_
   refine WM_val rfl rfl rfl rfl (R_load rfl sc28 rfl (mmY) rfl) ?_
   refine WM_call rfl (Spec.quiet (rpd_ok k now hnow)) rfl rfl rfl rfl rfl rfl rfl (pqY) ?_
   refine WM_do0 rfl rfl rfl (D_store (vs := [_, _]) rfl Tryz.sizeOf74 rfl rfl rfl rfl rfl (plY) (Nat.le_of_ble_eq_true rfl)) ?_
   rintro _ _ rfl
   refine ⟨⟨_, pqY⟩, ?_⟩
   refine WMa rfl (WMa rfl (WM_nil (WQ_code (WC_ret ?_))))
   refine WQ_ret rfl rfl (.cons (.cell (vs := [_, _]) rfl ag74 (mmY) rfl (atZ)) (.cons (.tmp rfl) (.cons (.tmp rfl) .nil))) rfl (by
     have hkn : k = 18446744073709551615 := by omega
     have h9 := hr.never (i := 2 * fd + dir)
     rw [e1, e2, ← hfin, ← hkn] at h9
     exact ⟨y.o, y.ob, y.c, y.tl, rfl, hw, h9, rfl⟩) (pqY)
theorem rget_bad (D : List Lp) (ob : Option Nat) (c : Nat) (tl : List Value) (hr : RD f D) (own : Own ob D.length c 3 (D.flatMap encLp) tl) (fd dir : Int) (h : spotE fd dir = 2) : Spec Tryz.prog 201 [.agg #[.int .u64 (now : Int), slV ob D.length c], .agg #[.int .i64 (fd), .int .i64 (dir)]] [⟨ob, cl (D.flatMap encLp ++ tl) 117⟩] (fun r H' => r = .tuple #[.int .u64 0, .int .i64 2] ∧ H' = [⟨ob, cl (D.flatMap encLp ++ tl) 117⟩]) := by
 refine Spec.of (E := [(0, .agg #[.int .u64 (now : Int), slV ob D.length c]), (1, .agg #[.int .i64 (fd), .int .i64 (dir)])]) Tryz.func201 rfl (by kernel_rfl) Tryz.ntmps201 rfl rfl (fun w => ?_)
 refine WC_seq (WC_region ?_)
 refine WL_do rfl rfl rfl (D_box (cs := [_, _]) rfl rfl rfl) ?_
 rintro _ _ ⟨b1, rfl, rfl⟩
 refine WL_do rfl rfl rfl (D_box (cs := [_, _]) rfl rfl rfl) ?_
 rintro _ _ ⟨b2, rfl, rfl⟩
 refine WLa rfl (WLa rfl (WL_nil (WQ_code (WC_seq (WC_seq (WC_region ?_))))))
 refine WL_val rfl rfl rfl (R_loadA (vs := [_, _]) rfl ag108 rfl (mmY) rfl (atZ)) ?_
 refine WL_do rfl rfl rfl (D_call (spot_ok fd dir) rfl rfl rfl rfl (pqY)) ?_
 rintro _ _ ⟨_, ⟨rfl, rfl⟩, rfl⟩
 refine WL_val rfl rfl rfl (R_notD rfl rfl) ?_
 refine WL_nil (WQ_code ?_)
 refine WC_dT rfl (by rw [h]; decide) ?_
 refine WC_seq (WC_region (WLa rfl (WLa rfl (WL_nil (WQ_code (WC_ret ?_))))))
 refine WQ_ret rfl rfl (.cons (.tmp rfl) (.cons (.tmp rfl) .nil)) rfl (by
   exact ⟨rfl, rfl⟩) (pqY)
theorem rget_ok (D : List Lp) (ob : Option Nat) (c : Nat) (tl : List Value) (hr : RD f D) (own : Own ob D.length c 3 (D.flatMap encLp) tl) (fd dir : Nat) (h1 : fd < 128) (h2 : dir < 2) (hf : f (2 * fd + dir) ≤ 18446744073709551615) : Spec Tryz.prog 201 [.agg #[.int .u64 (now : Int), slV ob D.length c], .agg #[.int .i64 (fd : Int), .int .i64 (dir : Int)]] [⟨ob, cl (D.flatMap encLp ++ tl) 117⟩] (fun r H' => r = .tuple #[.int .u64 (f (2 * fd + dir) : Int), .int .i64 0] ∧ H' = [⟨ob, cl (D.flatMap encLp ++ tl) 117⟩]) := by
 have hlen := hr.len
 have hsp : spotE (fd : Int) (dir : Int) = 0 := by unfold spotE; split <;> omega
 refine Spec.of (E := [(0, .agg #[.int .u64 (now : Int), slV ob D.length c]), (1, .agg #[.int .i64 (fd : Int), .int .i64 (dir : Int)])]) Tryz.func201 rfl (by kernel_rfl) Tryz.ntmps201 rfl rfl (fun w => ?_)
 refine WC_seq (WC_region ?_)
 refine WL_do rfl rfl rfl (D_box (cs := [_, _]) rfl rfl rfl) ?_
 rintro _ _ ⟨b1, rfl, rfl⟩
 refine WL_do rfl rfl rfl (D_box (cs := [_, _]) rfl rfl rfl) ?_
 rintro _ _ ⟨b2, rfl, rfl⟩
 refine WLa rfl (WLa rfl (WL_nil (WQ_code (WC_seq (WC_seq (WC_region ?_))))))
 refine WL_val rfl rfl rfl (R_loadA (vs := [_, _]) rfl ag108 rfl (mmY) rfl (atZ)) ?_
 refine WL_do rfl rfl rfl (D_call (spot_ok (fd : Int) (dir : Int)) rfl rfl rfl rfl (pqY)) ?_
 rintro _ _ ⟨_, ⟨rfl, rfl⟩, rfl⟩
 refine WL_val rfl rfl rfl (R_notD rfl rfl) ?_
 refine WL_nil (WQ_code ?_)
 refine WC_dF rfl (by rw [hsp]; decide) ?_
 refine WC_skip (WQ_code (WC_seq (WC_seq (WC_region (WLa rfl (WL_nil (WQ_code (WC_block ?_))))))))
 refine WC_loopF (G := Nat) [4, 5, 6, 10, 11, 12, 13, 14, 15, 16, 17, 18, 19, 20, 21, 22, 23, 24, 25, 26, 27, 28, 29, 30] (fun j => j ≤ D.length ∧ ∀ (i : Nat) (x : Lp), i < j → D[i]? = some x → ¬ (x.fd = (fd : Int) ∧ x.dir = (dir : Int))) (fun j => [(6, .int .i64 (j : Int))]) (fun j => []) (fun j => D.length - j) (0) (⟨Nat.zero_le _, fun i x h => absurd h (Nat.not_lt_zero i)⟩) leZ (pqY) ?_
 rintro j ⟨hj, hno⟩
 refine WC_seq (WC_seq (WC_region (WLa rfl ?_)))
 refine WL_val rfl rfl rfl (R_fieldAddr rfl fa74_1 rfl) ?_
 refine WL_val rfl rfl rfl (R_load rfl sc72 rfl (mmY) rfl) ?_
 refine WL_val rfl rfl rfl (R_len rfl Tryz.underlying72 rfl) ?_
 refine WL_val rfl rfl rfl (R_lss rfl rfl rfl) ?_
 refine WL_nil (WQ_code ?_)
 refine WC_dec rfl (fun c1 => ?_) (fun c1 => ?_)
 ·refine WC_skip (WQ_code (WC_seq (WC_block (WC_seq ?_))))
  refine WC_draw _ [(0, true), (1, true), (2, true), (3, true), (4, true), (5, true), (6, true), (7, true)] followsMixed rfl rfl (by kernel_rfl) .all ?_
  obtain ⟨x, hx⟩ := exE (T := D) (i := j) (by omega)
  obtain ⟨bb, rfl⟩ := own.some_of (by omega)
  refine WM_val rfl rfl rfl rfl (R_fieldAddr rfl fa74_1 rfl) ?_
  refine WM_val rfl rfl rfl rfl (R_load rfl sc72 rfl (mmY) rfl) ?_
  refine WMa rfl ?_
  refine WM_val rfl rfl rfl rfl (R_indexAddrN rfl Tryz.underlying72 Tryz.sizeOf117 rfl rfl (by omega)) ?_
  refine WM_val rfl rfl rfl rfl (R_fieldAddr rfl fa117_0 rfl) ?_
  refine WM_val rfl rfl rfl rfl (R_loadA (vs := [.int .i64 x.fd, .int .i64 x.dir]) rfl ag108 rfl (mmY) rfl (fm_at0 encLp3 hx (j := 0) (vs := [.int .i64 x.fd, .int .i64 x.dir]) (atZ) (by simp))) ?_
  refine WM_val rfl rfl rfl rfl (R_loadA (vs := [_, _]) rfl ag108 rfl (mmY) rfl (atZ)) ?_
  refine WM_val rfl rfl rfl rfl (R_seq108 rfl rfl rfl rfl) ?_
  refine WM_nil (WQ_code ?_)
  refine WC_dec rfl (fun c2 => ?_) (fun c2 => ?_)
  ·have hat : x.at_ = f (2 * fd + dir) := by obtain ⟨i, hi, rfl, _⟩ := hr.inn x (List.mem_of_getElem? hx); unfold lpI at *; dsimp only at *; congr 1; omega
   refine WC_seq (WC_region ?_)
   refine WL_val rfl rfl rfl (R_fieldAddr rfl fa74_1 rfl) ?_
   refine WL_val rfl rfl rfl (R_load rfl sc72 rfl (mmY) rfl) ?_
   refine WLa rfl ?_
   refine WL_val rfl rfl rfl (R_indexAddrN rfl Tryz.underlying72 Tryz.sizeOf117 rfl rfl (by omega)) ?_
   refine WL_val rfl rfl rfl (R_fieldAddr rfl fa117_1 rfl) ?_
   refine WL_val rfl rfl rfl (R_load (v := .int .u64 (x.at_ : Int)) rfl sc28 rfl (mmY) (fm_get0 encLp3 hx (j := 2) (by omega))) ?_
   refine WLa rfl (WLa rfl (WL_nil (WQ_code (WC_ret ?_))))
   refine WQ_ret rfl rfl (.cons (.tmp rfl) (.cons (.tmp rfl) .nil)) rfl (by
     exact ⟨by rw [hat]; rfl, rfl⟩) (pqY)
  ·refine WC_skip (WQ_code (WC_region (WLa rfl ?_)))
   refine WL_val rfl rfl rfl (R_add rfl rfl rfl (by omega)) ?_
   refine WLa rfl (WL_nil ?_)
   refine WQ_nextF (j + 1) (⟨by omega, fun i u hi hu => by by_cases e : i = j; (subst e; rw [hx] at hu; obtain rfl := Option.some.inj hu; assumption); (exact hno i u (by omega) hu)⟩) (by omega) leZ (psZ) rfl (pqY)
 ·have hnv : f (2 * fd + dir) = 18446744073709551615 := by
   rcases Nat.lt_or_ge (f (2 * fd + dir)) 18446744073709551615 with h9 | h9
   ·obtain ⟨i, hi⟩ := List.getElem?_of_mem (hr.all (2 * fd + dir) (by omega) h9)
    exact absurd ⟨by show (((2 * fd + dir) / 2 : Nat) : Int) = _; omega, by show (((2 * fd + dir) % 2 : Nat) : Int) = _; omega⟩ (hno i _ (by have := (List.getElem?_eq_some_iff.1 hi).1; omega) hi)
   ·omega
  refine WC_exit (WQ_code (WC_seq (WC_region (WLa rfl (WLa rfl (WL_nil (WQ_code (WC_ret ?_))))))))
  refine WQ_ret rfl rfl (.cons (.tmp rfl) (.cons (.tmp rfl) .nil)) rfl (by
    exact ⟨by rw [hnv]; rfl, rfl⟩) (pqY)
theorem rpass_bad (D : List Lp) (ob : Option Nat) (c : Nat) (tl : List Value) (hr : RD f D) (own : Own ob D.length c 3 (D.flatMap encLp) tl) (fd dir : Int) (h : spotE fd dir = 2) : Spec Tryz.prog 168 [.agg #[.int .u64 (now : Int), slV ob D.length c], .agg #[.int .i64 (fd), .int .i64 (dir)]] [⟨ob, cl (D.flatMap encLp ++ tl) 117⟩] (fun r H' => r = .tuple #[.bool false, .int .i64 2] ∧ H' = [⟨ob, cl (D.flatMap encLp ++ tl) 117⟩]) := by
 refine Spec.of (E := [(0, .agg #[.int .u64 (now : Int), slV ob D.length c]), (1, .agg #[.int .i64 (fd), .int .i64 (dir)])]) Tryz.func168 rfl (by kernel_rfl) Tryz.ntmps168 rfl rfl (fun w => ?_)
 refine WC_seq (WC_region ?_)
 refine WL_do rfl rfl rfl (D_box (cs := [_, _]) rfl rfl rfl) ?_
 rintro _ _ ⟨b1, rfl, rfl⟩
 refine WL_do rfl rfl rfl (D_box (cs := [_, _]) rfl rfl rfl) ?_
 rintro _ _ ⟨b2, rfl, rfl⟩
 refine WLa rfl (WLa rfl (WL_nil (WQ_code (WC_seq (WC_region ?_)))))
 refine WL_val rfl rfl rfl (R_loadA (vs := [_, _]) rfl ag74 rfl (mmY) rfl (atZ)) ?_
 refine WL_val rfl rfl rfl (R_loadA (vs := [_, _]) rfl ag108 rfl (mmY) rfl (atZ)) ?_
 refine WL_do rfl rfl rfl (D_call (rget_bad D ob c tl hr own fd dir h) rfl rfl rfl rfl (pqY)) ?_
 rintro _ _ ⟨_, ⟨rfl, rfl⟩, rfl⟩
 refine WLa rfl (WLa rfl (WLa rfl (WLa rfl (WLa rfl (WL_nil (WQ_code (WC_seq (WC_region (WLa rfl ?_)))))))))
 refine WL_val rfl rfl rfl (R_eql rfl rfl rfl) ?_
 refine WLa rfl ?_
 refine WL_set (s := 16) (v := .bool false) rfl (by simp) ?_
 refine WL_skip rfl rfl rfl ?_
 refine WL_skip rfl rfl rfl ?_
 refine WL_skip rfl rfl rfl ?_
 refine WL_skip rfl rfl rfl ?_
 refine WLa rfl (WLa rfl (WLa rfl (WLa rfl (WL_nil (WQ_code (WC_ret ?_))))))
 refine WQ_ret rfl rfl (.cons (.tmp rfl) (.cons (.tmp rfl) .nil)) rfl (by
   exact ⟨rfl, rfl⟩) (pqY)
theorem rpass_ok (D : List Lp) (ob : Option Nat) (c : Nat) (tl : List Value) (hr : RD f D) (own : Own ob D.length c 3 (D.flatMap encLp) tl) (hnow : now < 18446744073709551615) (fd dir : Nat) (h1 : fd < 128) (h2 : dir < 2) (hf : f (2 * fd + dir) ≤ 18446744073709551615) : Spec Tryz.prog 168 [.agg #[.int .u64 (now : Int), slV ob D.length c], .agg #[.int .i64 (fd : Int), .int .i64 (dir : Int)]] [⟨ob, cl (D.flatMap encLp ++ tl) 117⟩] (fun r H' => r = .tuple #[.bool (decide (f (2 * fd + dir) ≤ now)), .int .i64 0] ∧ H' = [⟨ob, cl (D.flatMap encLp ++ tl) 117⟩]) := by
 refine Spec.of (E := [(0, .agg #[.int .u64 (now : Int), slV ob D.length c]), (1, .agg #[.int .i64 (fd : Int), .int .i64 (dir : Int)])]) Tryz.func168 rfl (by kernel_rfl) Tryz.ntmps168 rfl rfl (fun w => ?_)
 refine WC_seq (WC_region ?_)
 refine WL_do rfl rfl rfl (D_box (cs := [_, _]) rfl rfl rfl) ?_
 rintro _ _ ⟨b1, rfl, rfl⟩
 refine WL_do rfl rfl rfl (D_box (cs := [_, _]) rfl rfl rfl) ?_
 rintro _ _ ⟨b2, rfl, rfl⟩
 refine WLa rfl (WLa rfl (WL_nil (WQ_code (WC_seq (WC_region ?_)))))
 refine WL_val rfl rfl rfl (R_loadA (vs := [_, _]) rfl ag74 rfl (mmY) rfl (atZ)) ?_
 refine WL_val rfl rfl rfl (R_loadA (vs := [_, _]) rfl ag108 rfl (mmY) rfl (atZ)) ?_
 refine WL_do rfl rfl rfl (D_call (rget_ok D ob c tl hr own fd dir h1 h2 hf) rfl rfl rfl rfl (pqY)) ?_
 rintro _ _ ⟨_, ⟨rfl, rfl⟩, rfl⟩
 refine WLa rfl (WLa rfl (WLa rfl (WLa rfl (WLa rfl (WL_nil (WQ_code (WC_seq (WC_region (WLa rfl ?_)))))))))
 refine WL_val rfl rfl rfl (R_eql rfl rfl rfl) ?_
 refine WLa rfl ?_
 refine WL_set (s := 16) (v := .bool true) rfl (by simp) ?_
 refine WLa rfl ?_
 refine WL_val rfl rfl rfl (R_fieldAddr rfl fa74_0 rfl) ?_
 refine WL_val rfl rfl rfl (R_load rfl sc28 rfl (mmY) rfl) ?_
 refine WL_do rfl rfl rfl (D_call (rpdn_ok _ now hnow) rfl rfl rfl rfl (pqY)) ?_
 rintro _ _ ⟨_, ⟨rfl, rfl⟩, rfl⟩
 refine WLa rfl (WLa rfl (WLa rfl (WLa rfl (WL_nil (WQ_code (WC_ret ?_))))))
 refine WQ_ret rfl rfl (.cons (.tmp rfl) (.cons (.tmp rfl) .nil)) rfl (by
   exact ⟨rfl, rfl⟩) (pqY)
theorem rclear_bad (D : List Lp) (ob : Option Nat) (c : Nat) (tl : List Value) (hr : RD f D) (own : Own ob D.length c 3 (D.flatMap encLp) tl) (fd : Int) (h : fileE fd = 2) : Spec Tryz.prog 123 [.agg #[.int .u64 (now : Int), slV ob D.length c], .int .i64 fd] [⟨ob, cl (D.flatMap encLp ++ tl) 117⟩] (fun r H' => r = .tuple #[.agg #[.int .u64 (now : Int), slV ob D.length c], .int .i64 2] ∧ H' = [⟨ob, cl (D.flatMap encLp ++ tl) 117⟩]) := by
 have hsp : spotE fd 0 = 2 := by unfold fileE at h; unfold spotE; split at h <;> split <;> omega
 refine Spec.of (E := [(0, .agg #[.int .u64 (now : Int), slV ob D.length c]), (1, .int .i64 fd)]) Tryz.func123 rfl (by kernel_rfl) Tryz.ntmps123 rfl rfl (fun w => ?_)
 refine WC_seq (WC_region ?_)
 refine WL_do rfl rfl rfl (D_box (cs := [_, _]) rfl rfl rfl) ?_
 rintro _ _ ⟨b1, rfl, rfl⟩
 refine WL_do rfl rfl rfl (D_alloc rfl zv74) ?_
 rintro _ _ ⟨b2, rfl, rfl⟩
 refine WLa rfl (WL_nil (WQ_code (WC_seq (WC_region ?_))))
 refine WL_val rfl rfl rfl (R_loadA (vs := [_, _]) rfl ag74 rfl (mmY) rfl (atZ)) ?_
 refine WLa rfl ?_
 refine WL_val rfl rfl rfl (R_build rfl zv108 pl108 rfl rfl) ?_
 refine WL_do rfl rfl rfl (D_call (rset_bad D ob c tl hr own fd 0 hsp 18446744073709551615) rfl rfl rfl rfl (pqY)) ?_
 rintro _ _ ⟨_, ⟨rfl, rfl⟩, rfl⟩
 refine WLa rfl (WLa rfl (WLa rfl (WLa rfl ?_)))
 refine WL_do rfl rfl rfl (D_alloc rfl zv74) ?_
 rintro _ _ ⟨b3, rfl, rfl⟩
 refine WL_do0 rfl rfl (D_store (vs := [_, _]) rfl Tryz.sizeOf74 rfl rfl rfl rfl rfl (plY) (Nat.le_of_ble_eq_true rfl)) ?_
 rintro _ _ rfl
 refine WLa rfl (WLa rfl (WL_nil (WQ_code (WC_seq (WC_seq (WC_region (WLa rfl ?_)))))))
 refine WL_val rfl rfl rfl (R_neq rfl rfl rfl) ?_
 refine WL_nil (WQ_code ?_)
 refine WC_dT rfl (by simp) ?_
 refine WC_seq (WC_region ?_)
 refine WL_val rfl rfl rfl (R_loadA (vs := [_, _]) rfl ag74 rfl (mmY) rfl (atZ)) ?_
 refine WLa rfl ?_
 refine WL_do0 rfl rfl (D_store (vs := [_, _]) rfl Tryz.sizeOf74 rfl rfl rfl rfl rfl (plY) (Nat.le_of_ble_eq_true rfl)) ?_
 rintro _ _ rfl
 refine WLa rfl (WL_nil (WQ_code (WC_ret ?_)))
 refine WQ_ret rfl rfl (.cons (.cell (vs := [_, _]) rfl ag74 (mmY) rfl (atZ)) (.cons (.tmp rfl) .nil)) rfl (by
   exact ⟨rfl, rfl⟩) (pqY)
theorem rclear_ok (D : List Lp) (ob : Option Nat) (c : Nat) (tl : List Value) (hr : RD f D) (own : Own ob D.length c 3 (D.flatMap encLp) tl) (hnow : now < 18446744073709551615) (fd : Nat) (h1 : fd < 128) : Spec Tryz.prog 123 [.agg #[.int .u64 (now : Int), slV ob D.length c], .int .i64 (fd : Int)] [⟨ob, cl (D.flatMap encLp ++ tl) 117⟩]
  (fun r H' => ∃ (D' : List Lp) (ob' : Option Nat) (c' : Nat) (tl' : List Value), r = .tuple #[.agg #[.int .u64 (now : Int), slV ob' D'.length c'], .int .i64 0] ∧ Own ob' D'.length c' 3 (D'.flatMap encLp) tl' ∧ RD (clrF f fd 2) D' ∧ H' = [⟨ob', cl (D'.flatMap encLp ++ tl') 117⟩, ⟨ob, cl (D.flatMap encLp ++ tl) 117⟩]) := by
 refine Spec.of (E := [(0, .agg #[.int .u64 (now : Int), slV ob D.length c]), (1, .int .i64 (fd : Int))]) Tryz.func123 rfl (by kernel_rfl) Tryz.ntmps123 rfl rfl (fun w => ?_)
 refine WC_seq (WC_region ?_)
 refine WL_do rfl rfl rfl (D_box (cs := [_, _]) rfl rfl rfl) ?_
 rintro _ _ ⟨b1, rfl, rfl⟩
 refine WL_do rfl rfl rfl (D_alloc rfl zv74) ?_
 rintro _ _ ⟨b2, rfl, rfl⟩
 refine WLa rfl (WL_nil (WQ_code (WC_seq (WC_region ?_))))
 refine WL_val rfl rfl rfl (R_loadA (vs := [_, _]) rfl ag74 rfl (mmY) rfl (atZ)) ?_
 refine WLa rfl ?_
 refine WL_val rfl rfl rfl (R_build rfl zv108 pl108 rfl rfl) ?_
 refine WL_do rfl rfl rfl (D_call (rset_ok D ob c tl hr own hnow fd 0 h1 (by omega) 18446744073709551615 (Nat.le_refl _)) rfl rfl rfl rfl (pqY)) ?_
 rintro _ _ ⟨_, ⟨D1, o1, c1, t1, rfl, w1, r1, rfl⟩, rfl⟩
 refine WLa rfl (WLa rfl (WLa rfl (WLa rfl ?_)))
 refine WL_do rfl rfl rfl (D_alloc rfl zv74) ?_
 rintro _ _ ⟨b3, rfl, rfl⟩
 refine WL_do0 rfl rfl (D_store (vs := [_, _]) rfl Tryz.sizeOf74 rfl rfl rfl rfl rfl (plY) (Nat.le_of_ble_eq_true rfl)) ?_
 rintro _ _ rfl
 refine WLa rfl (WLa rfl (WL_nil (WQ_code (WC_seq (WC_seq (WC_region (WLa rfl ?_)))))))
 refine WL_val rfl rfl rfl (R_neq rfl rfl rfl) ?_
 refine WL_nil (WQ_code ?_)
 refine WC_dF rfl (by simp) ?_
 refine WC_skip (WQ_code (WC_seq (WC_region ?_)))
 refine WL_val rfl rfl rfl (R_loadA (vs := [_, _]) rfl ag74 rfl (mmY) rfl (atZ)) ?_
 refine WLa rfl ?_
 refine WL_val rfl rfl rfl (R_build rfl zv108 pl108 rfl rfl) ?_
 refine WL_do rfl rfl rfl (D_call (rset_ok D1 o1 c1 t1 r1 w1 hnow fd 1 h1 (by omega) 18446744073709551615 (Nat.le_refl _)) rfl rfl rfl rfl (pqY)) ?_
 rintro _ _ ⟨_, ⟨D2, o2, c2, t2, rfl, w2, r2, rfl⟩, rfl⟩
 refine WLa rfl (WLa rfl (WLa rfl (WLa rfl ?_)))
 refine WL_do0 rfl rfl (D_store (vs := [_, _]) rfl Tryz.sizeOf74 rfl rfl rfl rfl rfl (plY) (Nat.le_of_ble_eq_true rfl)) ?_
 rintro _ _ rfl
 refine WL_nil (WQ_code (WC_seq (WC_region ?_)))
 refine WL_val rfl rfl rfl (R_loadA (vs := [_, _]) rfl ag74 rfl (mmY) rfl (atZ)) ?_
 refine WL_do0 rfl rfl (D_store (vs := [_, _]) rfl Tryz.sizeOf74 rfl rfl rfl rfl rfl (plY) (Nat.le_of_ble_eq_true rfl)) ?_
 rintro _ _ rfl
 refine WLa rfl (WL_nil (WQ_code (WC_ret ?_)))
 refine WQ_ret rfl rfl (.cons (.cell (vs := [_, _]) rfl ag74 (mmY) rfl (atZ)) (.cons (.tmp rfl) .nil)) rfl (by
   exact ⟨D2, o2, c2, t2, rfl, w2, r2, rfl⟩) (pqY)
theorem rnext_ok (D : List Lp) (ob : Option Nat) (c : Nat) (tl : List Value) (hr : RD f D) (own : Own ob D.length c 3 (D.flatMap encLp) tl) (hnow : now < 18446744073709551615) : Spec Tryz.prog 68 [.agg #[.int .u64 (now : Int), slV ob D.length c]] [⟨ob, cl (D.flatMap encLp ++ tl) 117⟩] (fun r H' => r = .int .u64 (minL (awake D now) : Int) ∧ H' = [⟨ob, cl (D.flatMap encLp ++ tl) 117⟩]) := by
 have hlen := hr.len
 refine Spec.of (E := [(0, .agg #[.int .u64 (now : Int), slV ob D.length c])]) Tryz.func68 rfl (by kernel_rfl) Tryz.ntmps68 rfl rfl (fun w => ?_)
 refine WC_seq (WC_region ?_)
 refine WL_do rfl rfl rfl (D_box (cs := [_, _]) rfl rfl rfl) ?_
 rintro _ _ ⟨b1, rfl, rfl⟩
 refine WLa rfl (WL_nil (WQ_code (WC_seq (WC_region (WLa rfl (WL_nil (WQ_code (WC_seq (WC_seq (WC_region (WLa rfl (WL_nil (WQ_code (WC_block ?_))))))))))))))
 refine WC_none 28 ?_
 refine WC_loopF (G := RnW10) [3, 4, 5, 6, 7, 8, 9, 10, 11, 12, 13, 14, 15, 16, 17, 18, 19, 20, 21, 22, 23, 24, 25, 26, 27, 28, 29, 30] (fun y => y.j ≤ D.length ∧ y.o = awake (D.take y.j) now ∧ Own y.ob y.o.length y.c 1 (y.o.flatMap encT) y.tl) (fun y => [(4, .int .i64 (y.j : Int)), (3, slV y.ob y.o.length y.c)]) (fun y => [⟨y.ob, cl (y.o.flatMap encT ++ y.tl) 28⟩]) (fun y => D.length - y.j) (⟨0, [], none, 0, []⟩) (⟨Nat.zero_le _, rfl, Own.empty 1⟩) leZ (pqY) ?_
 rintro y ⟨hj, ho, hw⟩
 have hol : y.o.length ≤ 256 := by rw [ho, awake, List.length_map]; exact Nat.le_trans (List.length_filter_le _ _) (by rw [List.length_take]; omega)
 refine WC_seq (WC_seq (WC_region (WLa rfl ?_)))
 refine WL_val rfl rfl rfl (R_fieldAddr rfl fa74_1 rfl) ?_
 refine WL_val rfl rfl rfl (R_load rfl sc72 rfl (mmY) rfl) ?_
 refine WL_val rfl rfl rfl (R_len rfl Tryz.underlying72 rfl) ?_
 refine WL_val rfl rfl rfl (R_lss rfl rfl rfl) ?_
 refine WL_nil (WQ_code ?_)
 refine WC_dec rfl (fun c1 => ?_) (fun c1 => ?_)
 ·refine WC_skip (WQ_code (WC_seq (WC_block (WC_seq ?_))))
  refine WC_draw _ [(0, true), (1, true), (2, true), (3, true), (4, true), (5, true), (6, true), (7, true), (8, true), (9, true)] followsMixed rfl rfl (by kernel_rfl) .all ?_
  obtain ⟨x, hx⟩ := exE (T := D) (i := y.j) (by omega)
  obtain ⟨bb, rfl⟩ := own.some_of (by omega)
  refine WM_val rfl rfl rfl rfl (R_fieldAddr rfl fa74_1 rfl) ?_
  refine WM_val rfl rfl rfl rfl (R_load rfl sc72 rfl (mmY) rfl) ?_
  refine WMa rfl ?_
  refine WM_val rfl rfl rfl rfl (R_indexAddrN rfl Tryz.underlying72 Tryz.sizeOf117 rfl rfl (by omega)) ?_
  refine WM_val rfl rfl rfl rfl (R_fieldAddr rfl fa117_1 rfl) ?_
  refine WM_val rfl rfl rfl rfl (R_load (v := .int .u64 (x.at_ : Int)) rfl sc28 rfl (mmY) (fm_get0 encLp3 hx (j := 2) (by omega))) ?_
  refine WM_val rfl rfl rfl rfl (R_fieldAddr rfl fa74_0 rfl) ?_
  refine WM_val rfl rfl rfl rfl (R_load rfl sc28 rfl (mmY) rfl) ?_
  refine WM_call rfl (Spec.quiet (rpdn_ok _ now hnow)) rfl rfl rfl rfl rfl rfl rfl (pqY) ?_
  refine WM_val rfl rfl rfl rfl (R_notD rfl rfl) ?_
  refine WM_nil (WQ_code ?_)
  refine WC_dec rfl (fun c2 => ?_) (fun c2 => ?_)
  ·refine WC_region (WLa rfl ?_)
   refine WL_val rfl rfl rfl (R_fieldAddr rfl fa74_1 rfl) ?_
   refine WL_val rfl rfl rfl (R_load rfl sc72 rfl (mmY) rfl) ?_
   refine WLa rfl ?_
   refine WL_val rfl rfl rfl (R_indexAddrN rfl Tryz.underlying72 Tryz.sizeOf117 rfl rfl (by omega)) ?_
   refine WL_val rfl rfl rfl (R_fieldAddr rfl fa117_1 rfl) ?_
   refine WL_val rfl rfl rfl (R_load (v := .int .u64 (x.at_ : Int)) rfl sc28 rfl (mmY) (fm_get0 encLp3 hx (j := 2) (by omega))) ?_
   refine WL_do rfl rfl rfl (D_buildSlice rfl si225 rfl rfl rfl) ?_
   rintro _ _ ⟨b2, rfl, rfl⟩
   refine WL_do rfl rfl rfl (D_append rfl si225 rfl (hw) (plY) rfl (mmY) ((atZ : At _ 0 [_])) (rfl) (rfl) (by omega) (by omega)) ?_
   rintro _ _ ⟨ob3, cap3, tl3, rfl, own3, rfl⟩
   rw [show y.o.flatMap encT ++ [Value.int .u64 (x.at_ : Int)] = (y.o ++ [x.at_]).flatMap encT from by rw [List.flatMap_append]; rfl, show y.o.length + 1 = (y.o ++ [x.at_]).length from by rw [List.length_append]; rfl] at *
   refine WLa rfl (WL_nil (WQ_code (WC_region (WLa rfl ?_))))
   refine WL_val rfl rfl rfl (R_add rfl rfl rfl (by omega)) ?_
   refine WLa rfl (WL_nil ?_)
   refine WQ_nextF (⟨y.j + 1, y.o ++ [x.at_], ob3, cap3, tl3⟩) (⟨by dsimp only; omega, by dsimp only; rw [tk_next hx, awake_snoc, if_pos (by omega), ho], own3⟩) (by dsimp only; omega) leZ (psZ) rfl (pqY)
  ·refine WC_skip (WQ_code (WC_region (WLa rfl ?_)))
   refine WL_val rfl rfl rfl (R_add rfl rfl rfl (by omega)) ?_
   refine WLa rfl (WL_nil ?_)
   refine WQ_nextF (⟨y.j + 1, y.o, y.ob, y.c, y.tl⟩) (⟨by dsimp only; omega, by dsimp only; rw [tk_next hx, awake_snoc, if_neg (by omega), List.append_nil, ho], hw⟩) (by dsimp only; omega) leZ (psZ) rfl (pqY)
 ·have hfin : y.o = awake D now := by rw [ho, List.take_of_length_le (by omega)]
  refine WC_exit (WQ_code (WC_seq (WC_region (WLa rfl ?_))))
  refine WL_do rfl rfl rfl (D_call (rmin_ok y.o (by omega) y.ob y.c y.tl hw) rfl rfl rfl rfl (pqY)) ?_
  rintro _ _ ⟨_, ⟨rfl, rfl⟩, rfl⟩
  refine WLa rfl (WL_nil (WQ_code (WC_ret ?_)))
  refine WQ_ret rfl rfl (.cons (.tmp rfl) .nil) rfl (by
    exact ⟨by rw [← hfin]; rfl, rfl⟩) (pqY)
end
end Go.Proofs.YtbkdebnkoidicaaGreat.Dr
end
section
set_option linter.unusedVariables false
set_option maxRecDepth 20000
set_option maxHeartbeats 2000000
namespace Go.Proofs.YtbkdebnkoidicaaGreat.Dr
theorem fm_take3 (T : List Lp) (i : Nat) (h : i ≤ T.length) : (T.flatMap encLp).take (i * 3) = (T.take i).flatMap encLp := by
 conv => lhs; rw [← List.take_append_drop i T, List.flatMap_append]
 rw [List.take_left' (by rw [fm_length encLp3, List.length_take]; omega)]
theorem shift_cells (T : List Lp) (z : Lp) (i c : Nat) (hi : i ≤ T.length) (hc : T.length + 1 ≤ c) (tl : List Value) :
  ((T ++ [z]).flatMap encLp ++ tl).take (if c = i + 1 then 0 else 0 + (i + 1) * 3) ++ (T.drop i).flatMap encLp ++ ((T ++ [z]).flatMap encLp ++ tl).drop ((if c = i + 1 then 0 else 0 + (i + 1) * 3) + ((T.drop i).flatMap encLp).length)
   = ((T ++ [z]).take (i + 1) ++ T.drop i).flatMap encLp ++ tl := by
 by_cases e : c = i + 1
 ·have e2 : T.drop i = [] := List.drop_eq_nil_of_le (by omega)
  rw [if_pos e, e2, List.take_of_length_le (l := T ++ [z]) (by rw [List.length_append, List.length_singleton]; omega), List.take_zero, List.flatMap_nil, List.length_nil, List.drop_zero, List.append_nil, List.nil_append, List.append_nil]
 ·have e3 : (T ++ [z]).length = T.length + 1 := by rw [List.length_append, List.length_singleton]
  rw [if_neg e, Nat.zero_add, List.take_append_of_le_length (by rw [fm_length encLp3, e3]; omega), fm_take3 _ _ (by omega), List.drop_left' (by rw [fm_length encLp3, fm_length encLp3, e3, List.length_drop]; omega), List.flatMap_append]
theorem copy_at (T : List Lp) (z : Lp) (i c : Nat) (hi : i ≤ T.length) (hc : T.length + 1 ≤ c) (tl : List Value) : At ((T ++ [z]).flatMap encLp ++ tl) (if c = i then 0 else 0 + i * 3) ((T.drop i).flatMap encLp) := by
 rw [if_neg (by omega), Nat.zero_add]
 intro m v hm
 have e : (T ++ [z]).flatMap encLp ++ tl = (T.take i).flatMap encLp ++ ((T.drop i).flatMap encLp ++ ([z].flatMap encLp ++ tl)) := by
  conv => lhs; rw [← List.take_append_drop i T, List.flatMap_append, List.flatMap_append]
  simp only [List.append_assoc]
 rw [e, show i * 3 + m = ((T.take i).flatMap encLp).length + m from by rw [fm_length encLp3, List.length_take, Nat.min_eq_left hi], List.getElem?_append_right (Nat.le_add_right _ _), Nat.add_sub_cancel_left, List.getElem?_append_left (List.getElem?_eq_some_iff.1 hm).1]
 exact hm
theorem shift_set (T : List Lp) (z x : Lp) (i : Nat) (hi : i ≤ T.length) : (∃ u, ((T ++ [z]).take (i + 1) ++ T.drop i)[i]? = some u) ∧ ((T ++ [z]).take (i + 1) ++ T.drop i).set i x = T.take i ++ x :: T.drop i := by
 obtain ⟨u, hu⟩ : ∃ u, (T ++ [z])[i]? = some u := ⟨_, List.getElem?_eq_getElem (by rw [List.length_append, List.length_singleton]; omega)⟩
 have hl : (T.take i).length = i := by rw [List.length_take]; omega
 rw [tk_next hu, List.take_append_of_le_length hi, List.append_assoc]
 refine ⟨⟨u, ?_⟩, ?_⟩
 ·rw [List.getElem?_append_right (by omega), hl, Nat.sub_self]; rfl
 ·rw [List.set_append_right _ _ (by omega), hl, Nat.sub_self]; rfl
section
variable {f : Nat → Nat} {now : Nat}
theorem radv_never (D : List Lp) (ob : Option Nat) (c : Nat) (tl : List Value) (hr : RD f D) (own : Own ob D.length c 3 (D.flatMap encLp) tl) : Spec Tryz.prog 132 [.agg #[.int .u64 (now : Int), slV ob D.length c], .int .u64 18446744073709551615] [⟨ob, cl (D.flatMap encLp ++ tl) 117⟩] (fun r H' => r = .tuple #[.agg #[.int .u64 (now : Int), slV ob D.length c], .slice none 0 0, .int .i64 2] ∧ H' = [⟨ob, cl (D.flatMap encLp ++ tl) 117⟩]) := by
 refine Spec.of (E := [(0, .agg #[.int .u64 (now : Int), slV ob D.length c]), (1, .int .u64 18446744073709551615)]) Tryz.func132 rfl (by kernel_rfl) Tryz.ntmps132 rfl rfl (fun w => ?_)
 refine WC_seq (WC_region ?_)
 refine WL_do rfl rfl rfl (D_box (cs := [_, _]) rfl rfl rfl) ?_
 rintro _ _ ⟨b1, rfl, rfl⟩
 refine WL_do rfl rfl rfl (D_alloc rfl zv74) ?_
 rintro _ _ ⟨b2, rfl, rfl⟩
 refine WLa rfl (WLa rfl (WL_nil (WQ_code (WC_seq (WC_seq (WC_region (WLa rfl ?_)))))))
 refine WL_val rfl rfl rfl (R_eql rfl rfl rfl) ?_
 refine WL_nil (WQ_code ?_)
 refine WC_dT rfl (by rfl) ?_
 refine WC_seq (WC_region ?_)
 refine WL_val rfl rfl rfl (R_loadA (vs := [_, _]) rfl ag74 rfl (mmY) rfl (atZ)) ?_
 refine WL_do0 rfl rfl (D_store (vs := [_, _]) rfl Tryz.sizeOf74 rfl rfl rfl rfl rfl (plY) (Nat.le_of_ble_eq_true rfl)) ?_
 rintro _ _ rfl
 refine WLa rfl (WLa rfl (WL_nil (WQ_code (WC_ret ?_))))
 refine WQ_ret rfl rfl (.cons (.cell (vs := [_, _]) rfl ag74 (mmY) rfl (atZ)) (.cons (.tmp rfl) (.cons (.tmp rfl) .nil))) rfl (by
   exact ⟨rfl, rfl⟩) (pqY)
theorem radv_past (D : List Lp) (ob : Option Nat) (c : Nat) (tl : List Value) (hr : RD f D) (own : Own ob D.length c 3 (D.flatMap encLp) tl) (hnow : now < 18446744073709551615) (to : Nat) (h : to < now) : Spec Tryz.prog 132 [.agg #[.int .u64 (now : Int), slV ob D.length c], .int .u64 (to : Int)] [⟨ob, cl (D.flatMap encLp ++ tl) 117⟩] (fun r H' => r = .tuple #[.agg #[.int .u64 (now : Int), slV ob D.length c], .slice none 0 0, .int .i64 3] ∧ H' = [⟨ob, cl (D.flatMap encLp ++ tl) 117⟩]) := by
 refine Spec.of (E := [(0, .agg #[.int .u64 (now : Int), slV ob D.length c]), (1, .int .u64 (to : Int))]) Tryz.func132 rfl (by kernel_rfl) Tryz.ntmps132 rfl rfl (fun w => ?_)
 refine WC_seq (WC_region ?_)
 refine WL_do rfl rfl rfl (D_box (cs := [_, _]) rfl rfl rfl) ?_
 rintro _ _ ⟨b1, rfl, rfl⟩
 refine WL_do rfl rfl rfl (D_alloc rfl zv74) ?_
 rintro _ _ ⟨b2, rfl, rfl⟩
 refine WLa rfl (WLa rfl (WL_nil (WQ_code (WC_seq (WC_seq (WC_region (WLa rfl ?_)))))))
 refine WL_val rfl rfl rfl (R_eql rfl rfl rfl) ?_
 refine WL_nil (WQ_code ?_)
 refine WC_dF rfl (by omega) ?_
 refine WC_skip (WQ_code (WC_seq (WC_seq (WC_region (WLa rfl ?_)))))
 refine WL_val rfl rfl rfl (R_fieldAddr rfl fa74_0 rfl) ?_
 refine WL_val rfl rfl rfl (R_load rfl sc28 rfl (mmY) rfl) ?_
 refine WL_val rfl rfl rfl (R_lss rfl rfl rfl) ?_
 refine WL_nil (WQ_code ?_)
 refine WC_dT rfl (by omega) ?_
 refine WC_seq (WC_region ?_)
 refine WL_val rfl rfl rfl (R_loadA (vs := [_, _]) rfl ag74 rfl (mmY) rfl (atZ)) ?_
 refine WL_do0 rfl rfl (D_store (vs := [_, _]) rfl Tryz.sizeOf74 rfl rfl rfl rfl rfl (plY) (Nat.le_of_ble_eq_true rfl)) ?_
 rintro _ _ rfl
 refine WLa rfl (WLa rfl (WL_nil (WQ_code (WC_ret ?_))))
 refine WQ_ret rfl rfl (.cons (.cell (vs := [_, _]) rfl ag74 (mmY) rfl (atZ)) (.cons (.tmp rfl) (.cons (.tmp rfl) .nil))) rfl (by
   exact ⟨rfl, rfl⟩) (pqY)
theorem radv_ok (D : List Lp) (ob : Option Nat) (c : Nat) (tl : List Value) (hr : RD f D) (own : Own ob D.length c 3 (D.flatMap encLp) tl) (to : Nat) (h1 : now ≤ to) (h2 : to < 18446744073709551615) : Spec Tryz.prog 132 [.agg #[.int .u64 (now : Int), slV ob D.length c], .int .u64 (to : Int)] [⟨ob, cl (D.flatMap encLp ++ tl) 117⟩]
  (fun r H' => ∃ (l : List Lp) (o2 : Option Nat) (c2 : Nat) (t2 : List Value), r = .tuple #[.agg #[.int .u64 (to : Int), slV ob D.length c], slV o2 l.length c2, .int .i64 0] ∧ Own o2 l.length c2 3 (l.flatMap encLp) t2 ∧ IsLap f now to l ∧ H' = [⟨o2, cl (l.flatMap encLp ++ t2) 117⟩, ⟨ob, cl (D.flatMap encLp ++ tl) 117⟩]) := by
 have hlen := hr.len
 refine Spec.of (E := [(0, .agg #[.int .u64 (now : Int), slV ob D.length c]), (1, .int .u64 (to : Int))]) Tryz.func132 rfl (by kernel_rfl) Tryz.ntmps132 rfl rfl (fun w => ?_)
 refine WC_seq (WC_region ?_)
 refine WL_do rfl rfl rfl (D_box (cs := [_, _]) rfl rfl rfl) ?_
 rintro _ _ ⟨b1, rfl, rfl⟩
 refine WL_do rfl rfl rfl (D_alloc rfl zv74) ?_
 rintro _ _ ⟨b2, rfl, rfl⟩
 refine WLa rfl (WLa rfl (WL_nil (WQ_code (WC_seq (WC_seq (WC_region (WLa rfl ?_)))))))
 refine WL_val rfl rfl rfl (R_eql rfl rfl rfl) ?_
 refine WL_nil (WQ_code ?_)
 refine WC_dF rfl (by omega) ?_
 refine WC_skip (WQ_code (WC_seq (WC_seq (WC_region (WLa rfl ?_)))))
 refine WL_val rfl rfl rfl (R_fieldAddr rfl fa74_0 rfl) ?_
 refine WL_val rfl rfl rfl (R_load rfl sc28 rfl (mmY) rfl) ?_
 refine WL_val rfl rfl rfl (R_lss rfl rfl rfl) ?_
 refine WL_nil (WQ_code ?_)
 refine WC_dF rfl (by omega) ?_
 refine WC_skip (WQ_code (WC_seq (WC_region (WLa rfl (WL_nil (WQ_code (WC_seq (WC_seq (WC_region (WLa rfl (WL_nil (WQ_code (WC_block ?_)))))))))))))
 refine WC_none 117 ?_
 refine WC_loopF (G := RsW) [7, 8, 9, 18, 19, 20, 21, 22, 23, 24, 25, 26, 27, 28, 29, 30, 31, 32, 33, 34, 35, 36, 37, 38, 39, 40, 41, 42, 43, 44, 45, 46, 47, 48, 49, 50, 51, 52, 53, 54, 55, 56, 57, 58, 59, 60, 61, 62, 63, 64, 65, 66, 67, 68, 69, 70, 71, 72, 73, 74, 75, 76, 77, 78, 79, 80, 81, 82] (fun y => y.j ≤ D.length ∧ RLap D now to y.j y.o ∧ Own y.ob y.o.length y.c 3 (y.o.flatMap encLp) y.tl) (fun y => [(8, .int .i64 (y.j : Int)), (7, slV y.ob y.o.length y.c)]) (fun y => [⟨y.ob, cl (y.o.flatMap encLp ++ y.tl) 117⟩]) (fun y => D.length - y.j) (⟨0, [], none, 0, []⟩) (⟨Nat.zero_le _, RLap.nil _ _ _, Own.empty 3⟩) leZ (pqY) ?_
 rintro y ⟨hyj, hlap, hw⟩
 have hol := hlap.len
 refine WC_seq (WC_seq (WC_region (WLa rfl ?_)))
 refine WL_val rfl rfl rfl (R_fieldAddr rfl fa74_1 rfl) ?_
 refine WL_val rfl rfl rfl (R_load rfl sc72 rfl (mmY) rfl) ?_
 refine WL_val rfl rfl rfl (R_len rfl Tryz.underlying72 rfl) ?_
 refine WL_val rfl rfl rfl (R_lss rfl rfl rfl) ?_
 refine WL_nil (WQ_code ?_)
 refine WC_dec rfl (fun c1 => ?_) (fun c1 => ?_)
 ·refine WC_skip (WQ_code (WC_seq (WC_block (WC_seq (WC_seq ?_)))))
  refine WC_draw _ [(0, true), (1, true), (2, true), (3, true), (4, true), (5, true), (6, true), (7, true), (8, true), (9, true), (10, true), (11, true), (12, true), (13, true), (14, true), (15, true), (16, true), (17, true), (18, true), (19, true)] followsMixed rfl rfl (by kernel_rfl) .all ?_
  obtain ⟨x, hx⟩ := exE (T := D) (i := y.j) (by omega)
  obtain ⟨bb, hbb⟩ := own.some_of (by omega)
  refine WM_val rfl rfl rfl rfl (R_fieldAddr rfl fa74_1 rfl) ?_
  refine WM_val rfl rfl rfl rfl (R_load rfl sc72 rfl (mmY) rfl) ?_
  refine WMa rfl ?_
  refine WM_val rfl rfl rfl rfl (R_idxO hbb rfl Tryz.underlying72 Tryz.sizeOf117 rfl rfl (by omega)) ?_
  refine WM_val rfl rfl rfl rfl (R_fieldAddr rfl fa117_1 rfl) ?_
  refine WM_val rfl rfl rfl rfl (R_loadO (v := .int .u64 (x.at_ : Int)) hbb rfl sc28 rfl (mmY) (fm_get0 encLp3 hx (j := 2) (by omega))) ?_
  refine WM_val rfl rfl rfl rfl (R_fieldAddr rfl fa74_0 rfl) ?_
  refine WM_val rfl rfl rfl rfl (R_load rfl sc28 rfl (mmY) rfl) ?_
  refine WM_call rfl (Spec.quiet (rpdn_ok x.at_ now (by omega))) rfl rfl rfl rfl rfl rfl rfl (pqY) ?_
  refine WMa rfl ?_
  refine WM_splitD (s := 34) rfl (fun c2 => ?_) (fun c2 => ?_)
  ·refine WM_skip rfl rfl rfl rfl ?_
   refine WM_skip rfl rfl rfl rfl ?_
   refine WM_skip rfl rfl rfl rfl ?_
   refine WM_skip rfl rfl rfl rfl ?_
   refine WM_skip rfl rfl rfl rfl ?_
   refine WM_skip rfl rfl rfl rfl ?_
   refine WM_skip rfl rfl rfl rfl ?_
   refine WM_skip rfl rfl rfl rfl ?_
   refine WM_skip rfl rfl rfl rfl ?_
   refine WMa rfl (WM_nil (WQ_code ?_))
   refine WC_T rfl ?_
   refine WC_exit (WQ_code (WC_region (WLa rfl ?_)))
   refine WL_val rfl rfl rfl (R_add rfl rfl rfl (by omega)) ?_
   refine WLa rfl (WL_nil ?_)
   refine WQ_nextF (⟨y.j + 1, y.o, y.ob, y.c, y.tl⟩) (⟨by dsimp only; omega, hlap.skip hx (by omega), hw⟩) (by dsimp only; omega) leZ (psZ) rfl (pqY)
  ·refine WM_val rfl rfl rfl rfl (R_fieldAddr rfl fa74_1 rfl) ?_
   refine WM_val rfl rfl rfl rfl (R_load rfl sc72 rfl (mmY) rfl) ?_
   refine WMa rfl ?_
   refine WM_val rfl rfl rfl rfl (R_idxO hbb rfl Tryz.underlying72 Tryz.sizeOf117 rfl rfl (by omega)) ?_
   refine WM_val rfl rfl rfl rfl (R_fieldAddr rfl fa117_1 rfl) ?_
   refine WM_val rfl rfl rfl rfl (R_loadO (v := .int .u64 (x.at_ : Int)) hbb rfl sc28 rfl (mmY) (fm_get0 encLp3 hx (j := 2) (by omega))) ?_
   refine WMa rfl ?_
   refine WM_call rfl (Spec.quiet (rpdn_ok x.at_ to h2)) rfl rfl rfl rfl rfl rfl rfl (pqY) ?_
   refine WM_val rfl rfl rfl rfl (R_notD rfl rfl) ?_
   refine WMa rfl (WM_nil (WQ_code ?_))
   refine WC_dec rfl (fun c3 => ?_) (fun c3 => ?_)
   ·refine WC_exit (WQ_code (WC_region (WLa rfl ?_)))
    refine WL_val rfl rfl rfl (R_add rfl rfl rfl (by omega)) ?_
    refine WLa rfl (WL_nil ?_)
    refine WQ_nextF (⟨y.j + 1, y.o, y.ob, y.c, y.tl⟩) (⟨by dsimp only; omega, hlap.skip hx (by omega), hw⟩) (by dsimp only; omega) leZ (psZ) rfl (pqY)
   ·refine WC_skip (WQ_code (WC_seq (WC_region (WLa rfl (WL_nil (WQ_code (WC_seq (WC_block ?_))))))))
    refine WC_loopF (G := Nat) [9, 45, 46, 47, 48, 49, 50, 51, 52, 53, 54, 55, 56, 57, 58, 59, 60, 61, 62] (fun i => InsAt y.o x i) (fun i => [(9, .int .i64 (i : Int))]) (fun i => []) (fun i => y.o.length - i) (0) (InsAt.zero _ _) leZ (pqY) ?_
    rintro i hi
    have hil := hi.le
    refine WC_seq (WC_seq ?_)
    refine WC_draw _ [(0, true), (1, true), (2, true), (3, true), (4, true), (5, true), (6, true), (7, true), (8, true), (9, true), (10, true), (11, true), (12, true), (13, true), (14, true), (15, true)] followsMixed rfl rfl (by kernel_rfl) .all ?_
    refine WMa rfl (WMa rfl ?_)
    refine WM_val rfl rfl rfl rfl (R_len rfl Tryz.underlying72 rfl) ?_
    refine WM_val rfl rfl rfl rfl (R_lss rfl rfl rfl) ?_
    refine WMa rfl ?_
    refine WM_splitD (s := 49) rfl (fun c4 => ?_) (fun c4 => ?_)
    ·refine WMa rfl (WMa rfl ?_)
     obtain ⟨z, hz⟩ := exE (T := y.o) (i := i) (by omega)
     obtain ⟨b0, hb0⟩ := hw.some_of (by omega)
     refine WM_val rfl rfl rfl rfl (R_idxO hb0 rfl Tryz.underlying72 Tryz.sizeOf117 rfl rfl (by omega)) ?_
     refine WM_val rfl rfl rfl rfl (R_loadAO (vs := [.int .i64 z.fd, .int .i64 z.dir, .int .u64 (z.at_ : Int)]) hb0 rfl ag117 rfl (mmY) rfl (fm_at0 encLp3 hz (j := 0) (vs := [.int .i64 z.fd, .int .i64 z.dir, .int .u64 (z.at_ : Int)]) (atZ) (by simp))) ?_
     refine WM_val rfl rfl rfl rfl (R_fieldAddr rfl fa74_1 rfl) ?_
     refine WM_val rfl rfl rfl rfl (R_load rfl sc72 rfl (mmY) rfl) ?_
     refine WMa rfl ?_
     refine WM_val rfl rfl rfl rfl (R_idxO hbb rfl Tryz.underlying72 Tryz.sizeOf117 rfl rfl (by omega)) ?_
     refine WM_val rfl rfl rfl rfl (R_loadAO (vs := [.int .i64 x.fd, .int .i64 x.dir, .int .u64 (x.at_ : Int)]) hbb rfl ag117 rfl (mmY) rfl (fm_at0 encLp3 hx (j := 0) (vs := [.int .i64 x.fd, .int .i64 x.dir, .int .u64 (x.at_ : Int)]) (atZ) (by simp))) ?_
     refine WM_call rfl (Spec.quiet (rless_ok z x)) rfl rfl rfl rfl rfl rfl rfl (pqY) ?_
     refine WMa rfl (WM_nil (WQ_code ?_))
     refine WC_dec rfl (fun c5 => ?_) (fun c5 => ?_)
     ·refine WC_skip (WQ_code (WC_block (WC_region (WLa rfl ?_))))
      refine WL_val rfl rfl rfl (R_add rfl rfl rfl (by omega)) ?_
      refine WLa rfl (WL_nil ?_)
      refine WQ_nextF (i + 1) (hi.next hz (by assumption)) (by omega) leZ (psZ) rfl (pqY)
     ·have hj : ∀ y9, y.o[i]? = some y9 → ¬ lpLt y9 x := fun y9 h9 => by rw [hz] at h9; obtain rfl := Option.some.inj h9; assumption
      refine WC_exit (WQ_code (WC_seq (WC_region (WLa rfl ?_))))
      refine WL_val rfl rfl rfl (R_build rfl zv117 pl117 rfl rfl) ?_
      refine WL_do rfl rfl rfl (D_buildSlice rfl si72 rfl rfl rfl) ?_
      rintro _ _ ⟨b3, rfl, rfl⟩
      refine WL_do rfl rfl rfl (D_append rfl si72 rfl (hw) (plY) rfl (mmY) ((atZ : At _ 0 [_, _, _])) (rfl) (rfl) (by omega) (by omega)) ?_
      rintro _ _ ⟨ob4, cap4, tl4, rfl, own4, rfl⟩
      have hN : (y.o.take i ++ x :: y.o.drop i).length = y.o.length + 1 := by rw [List.length_append, List.length_cons, List.length_take, List.length_drop]; omega
      obtain ⟨b9, rfl⟩ := own4.some_of (by omega)
      rw [show y.o.flatMap encLp ++ [Value.int .i64 0, .int .i64 0, .int .u64 0] = (y.o ++ [(⟨0, 0, 0⟩ : Lp)]).flatMap encLp from by rw [List.flatMap_append]; rfl, ← hN] at own4 ⊢
      refine WLa rfl (WL_nil (WQ_code (WC_seq ?_)))
      refine WC_drawR [⟨some b9, _⟩] [(0, true), (1, true), (2, true), (3, true), (4, true), (5, true), (6, true), (7, false)] followsMixed rfl rfl (by kernel_rfl) (pqY) ?_
      refine WMa rfl (WMa rfl ?_)
      refine WM_val rfl rfl rfl rfl (R_addR (r := ((i + 1 : Nat) : Int)) rfl rfl rfl (by rw [IntWalk.i64_in _ (by omega)]; omega)) ?_
      refine WM_val rfl rfl rfl rfl (R_sliceFromK (m := i + 1) rfl Tryz.underlying72 Tryz.sizeOf117 rfl rfl (by omega)) ?_
      refine WMa rfl (WMa rfl ?_)
      refine WM_val rfl rfl rfl rfl (R_sliceFromK (m := i) rfl Tryz.underlying72 Tryz.sizeOf117 rfl rfl (by omega)) ?_
      refine WM_do rfl rfl rfl rfl (D_copy (n := y.o.length - i) (news := (y.o.drop i).flatMap encLp) rfl si72 rfl (plY) rfl (mmY) (copy_at y.o _ i _ hil (by have := own4.le; omega) _) (by show _ = min _ _; omega) (by rw [fm_length encLp3, List.length_drop]) (fm_all (fun x => rfl) _) (by rw [fm_length encLp3, List.length_drop, List.length_append, fm_length encLp3, List.length_append, List.length_singleton]; split <;> omega)) ?_
      rintro _ _ ⟨rfl, rfl⟩
      refine ⟨⟨_, pqY⟩, ?_⟩
      rw [shift_cells y.o _ i _ hil (by have := own4.le; omega)]
      obtain ⟨⟨u, hu⟩, hset⟩ := shift_set y.o ⟨0, 0, 0⟩ x i hil
      refine WM_nil (WQ_code (WC_region (WLa rfl (WLa rfl ?_))))
      refine WL_val rfl rfl rfl (R_fieldAddr rfl fa74_1 rfl) ?_
      refine WL_val rfl rfl rfl (R_load rfl sc72 rfl (mmY) rfl) ?_
      refine WLa rfl ?_
      refine WL_val rfl rfl rfl (R_idxO hbb rfl Tryz.underlying72 Tryz.sizeOf117 rfl rfl (by omega)) ?_
      refine WL_val rfl rfl rfl (R_loadAO (vs := [.int .i64 x.fd, .int .i64 x.dir, .int .u64 (x.at_ : Int)]) hbb rfl ag117 rfl (mmY) rfl (fm_at0 encLp3 hx (j := 0) (vs := [.int .i64 x.fd, .int .i64 x.dir, .int .u64 (x.at_ : Int)]) (atZ) (by simp))) ?_
      refine WL_val rfl rfl rfl (R_indexAddrN rfl Tryz.underlying72 Tryz.sizeOf117 rfl rfl (by omega)) ?_
      refine WL_do0 rfl rfl (D_store (vs := [_, _, _]) rfl Tryz.sizeOf117 rfl rfl rfl rfl rfl (plY) (by exact fm_room0 encLp3 (List.getElem?_eq_some_iff.1 hu).1 (j := 0) (by omega))) ?_
      rintro _ _ rfl
      have hput := fm_put0 encLp3 x hu (j := 0) (vs := [.int .i64 x.fd, .int .i64 x.dir, .int .u64 (x.at_ : Int)]) (by simp) rfl (tl := tl4)
      simp only [Nat.add_zero] at hput
      rw [hput, hset]
      refine WL_nil (WQ_code (WC_region (WLa rfl ?_)))
      refine WL_val rfl rfl rfl (R_add rfl rfl rfl (by omega)) ?_
      refine WLa rfl (WL_nil ?_)
      refine WQ_nextF (⟨y.j + 1, (y.o.take i ++ x :: y.o.drop i), some b9, cap4, tl4⟩) (⟨by dsimp only; omega, hlap.ins hr hx (by omega) hi hj, own4.like (by rw [fm_length encLp3, fm_length encLp3, hN, List.length_append, List.length_singleton])⟩) (by dsimp only; omega) leZ (psZ) rfl (pqY)
    ·have hj : ∀ y9, y.o[i]? = some y9 → ¬ lpLt y9 x := fun y9 h9 => by have := (List.getElem?_eq_some_iff.1 h9).1; omega
     refine WM_skip rfl rfl rfl rfl ?_
     refine WM_skip rfl rfl rfl rfl ?_
     refine WM_skip rfl rfl rfl rfl ?_
     refine WM_skip rfl rfl rfl rfl ?_
     refine WM_skip rfl rfl rfl rfl ?_
     refine WM_skip rfl rfl rfl rfl ?_
     refine WM_skip rfl rfl rfl rfl ?_
     refine WM_skip rfl rfl rfl rfl ?_
     refine WM_skip rfl rfl rfl rfl ?_
     refine WM_skip rfl rfl rfl rfl ?_
     refine WMa rfl (WM_nil (WQ_code ?_))
     refine WC_F rfl ?_
     refine WC_exit (WQ_code (WC_seq (WC_region (WLa rfl ?_))))
     refine WL_val rfl rfl rfl (R_build rfl zv117 pl117 rfl rfl) ?_
     refine WL_do rfl rfl rfl (D_buildSlice rfl si72 rfl rfl rfl) ?_
     rintro _ _ ⟨b5, rfl, rfl⟩
     refine WL_do rfl rfl rfl (D_append rfl si72 rfl (hw) (plY) rfl (mmY) ((atZ : At _ 0 [_, _, _])) (rfl) (rfl) (by omega) (by omega)) ?_
     rintro _ _ ⟨ob6, cap6, tl6, rfl, own6, rfl⟩
     have hN : (y.o.take i ++ x :: y.o.drop i).length = y.o.length + 1 := by rw [List.length_append, List.length_cons, List.length_take, List.length_drop]; omega
     obtain ⟨b9, rfl⟩ := own6.some_of (by omega)
     rw [show y.o.flatMap encLp ++ [Value.int .i64 0, .int .i64 0, .int .u64 0] = (y.o ++ [(⟨0, 0, 0⟩ : Lp)]).flatMap encLp from by rw [List.flatMap_append]; rfl, ← hN] at own6 ⊢
     refine WLa rfl (WL_nil (WQ_code (WC_seq ?_)))
     refine WC_drawR [⟨some b9, _⟩] [(0, true), (1, true), (2, true), (3, true), (4, true), (5, true), (6, true), (7, false)] followsMixed rfl rfl (by kernel_rfl) (pqY) ?_
     refine WMa rfl (WMa rfl ?_)
     refine WM_val rfl rfl rfl rfl (R_addR (r := ((i + 1 : Nat) : Int)) rfl rfl rfl (by rw [IntWalk.i64_in _ (by omega)]; omega)) ?_
     refine WM_val rfl rfl rfl rfl (R_sliceFromK (m := i + 1) rfl Tryz.underlying72 Tryz.sizeOf117 rfl rfl (by omega)) ?_
     refine WMa rfl (WMa rfl ?_)
     refine WM_val rfl rfl rfl rfl (R_sliceFromK (m := i) rfl Tryz.underlying72 Tryz.sizeOf117 rfl rfl (by omega)) ?_
     refine WM_do rfl rfl rfl rfl (D_copy (n := y.o.length - i) (news := (y.o.drop i).flatMap encLp) rfl si72 rfl (plY) rfl (mmY) (copy_at y.o _ i _ hil (by have := own6.le; omega) _) (by show _ = min _ _; omega) (by rw [fm_length encLp3, List.length_drop]) (fm_all (fun x => rfl) _) (by rw [fm_length encLp3, List.length_drop, List.length_append, fm_length encLp3, List.length_append, List.length_singleton]; split <;> omega)) ?_
     rintro _ _ ⟨rfl, rfl⟩
     refine ⟨⟨_, pqY⟩, ?_⟩
     rw [shift_cells y.o _ i _ hil (by have := own6.le; omega)]
     obtain ⟨⟨u, hu⟩, hset⟩ := shift_set y.o ⟨0, 0, 0⟩ x i hil
     refine WM_nil (WQ_code (WC_region (WLa rfl (WLa rfl ?_))))
     refine WL_val rfl rfl rfl (R_fieldAddr rfl fa74_1 rfl) ?_
     refine WL_val rfl rfl rfl (R_load rfl sc72 rfl (mmY) rfl) ?_
     refine WLa rfl ?_
     refine WL_val rfl rfl rfl (R_idxO hbb rfl Tryz.underlying72 Tryz.sizeOf117 rfl rfl (by omega)) ?_
     refine WL_val rfl rfl rfl (R_loadAO (vs := [.int .i64 x.fd, .int .i64 x.dir, .int .u64 (x.at_ : Int)]) hbb rfl ag117 rfl (mmY) rfl (fm_at0 encLp3 hx (j := 0) (vs := [.int .i64 x.fd, .int .i64 x.dir, .int .u64 (x.at_ : Int)]) (atZ) (by simp))) ?_
     refine WL_val rfl rfl rfl (R_indexAddrN rfl Tryz.underlying72 Tryz.sizeOf117 rfl rfl (by omega)) ?_
     refine WL_do0 rfl rfl (D_store (vs := [_, _, _]) rfl Tryz.sizeOf117 rfl rfl rfl rfl rfl (plY) (by exact fm_room0 encLp3 (List.getElem?_eq_some_iff.1 hu).1 (j := 0) (by omega))) ?_
     rintro _ _ rfl
     have hput := fm_put0 encLp3 x hu (j := 0) (vs := [.int .i64 x.fd, .int .i64 x.dir, .int .u64 (x.at_ : Int)]) (by simp) rfl (tl := tl6)
     simp only [Nat.add_zero] at hput
     rw [hput, hset]
     refine WL_nil (WQ_code (WC_region (WLa rfl ?_)))
     refine WL_val rfl rfl rfl (R_add rfl rfl rfl (by omega)) ?_
     refine WLa rfl (WL_nil ?_)
     refine WQ_nextF (⟨y.j + 1, (y.o.take i ++ x :: y.o.drop i), some b9, cap6, tl6⟩) (⟨by dsimp only; omega, hlap.ins hr hx (by omega) hi hj, own6.like (by rw [fm_length encLp3, fm_length encLp3, hN, List.length_append, List.length_singleton])⟩) (by dsimp only; omega) leZ (psZ) rfl (pqY)
 ·have hfin : y.j = D.length := by omega
  refine WC_exit (WQ_code (WC_seq (WC_region (WLa rfl ?_))))
  refine WL_val rfl rfl rfl (R_fieldAddr rfl fa74_1 rfl) ?_
  refine WL_val rfl rfl rfl (R_load rfl sc72 rfl (mmY) rfl) ?_
  refine WL_val rfl rfl rfl (R_build rfl zv74 pl74 rfl rfl) ?_
  refine WLa rfl ?_
  refine WL_do0 rfl rfl (D_store (vs := [_, _]) rfl Tryz.sizeOf74 rfl rfl rfl rfl rfl (plY) (Nat.le_of_ble_eq_true rfl)) ?_
  rintro _ _ rfl
  refine WLa rfl (WLa rfl (WL_nil (WQ_code (WC_ret ?_))))
  refine WQ_ret rfl rfl (.cons (.cell (vs := [_, _]) rfl ag74 (mmY) rfl (atZ)) (.cons (.tmp rfl) (.cons (.tmp rfl) .nil))) rfl (by
    exact ⟨y.o, y.ob, y.c, y.tl, rfl, hw, (hfin ▸ hlap).done hr h2, rfl⟩) (pqY)
end
end Go.Proofs.YtbkdebnkoidicaaGreat.Dr
end
section
set_option linter.unusedVariables false
set_option maxRecDepth 20000
set_option maxHeartbeats 1000000
namespace Go.Proofs.YtbkdebnkoidicaaGreat.Dr
theorem Spec.less {P : Program} {f : FuncId} {args : List Value} {H : Heap} {post : Value → Heap → Prop} (h : Spec P f args H (fun r H' => ∃ A B, H' = A ++ B ∧ post r A)) : Spec P f args H post :=
 ⟨h.enters, fun w hw => (h.calls w hw).mono fun e w' ⟨v, H', e1, ⟨A, B, e2, p⟩, r⟩ => ⟨v, A, e1, p, by subst e2; exact r.left⟩⟩
theorem spotE_nat {fd dir : Int} (h : spotE fd dir = 0) : ∃ a b : Nat, a < 128 ∧ b < 2 ∧ fd = (a : Int) ∧ dir = (b : Int) := by
 unfold spotE at h
 split at h
 ·exact ⟨fd.toNat, dir.toNat, by omega, by omega, by omega, by omega⟩
 ·omega
theorem spotE_two {fd dir : Int} (h : ¬ spotE fd dir = 0) : spotE fd dir = 2 := by
 unfold spotE at *; split <;> simp_all
theorem fileE_nat {fd : Int} (h : fileE fd = 0) : ∃ a : Nat, a < 128 ∧ fd = (a : Int) := by
 unfold fileE at h
 split at h
 ·exact ⟨fd.toNat, by omega, by omega⟩
 ·omega
theorem fileE_two {fd : Int} (h : ¬ fileE fd = 0) : fileE fd = 2 := by
 unfold fileE at *; split <;> simp_all
def pl (fd dir : Int) : Nat := 2 * fd.toNat + dir.toNat
theorem pl_nat (a b : Nat) : pl (a : Int) (b : Int) = 2 * a + b := by unfold pl; omega
def setF (f : Nat → Nat) (fd dir : Int) (k : Nat) : Nat → Nat := if spotE fd dir = 0 then updF f (pl fd dir) k else f
def clearF (f : Nat → Nat) (fd : Int) : Nat → Nat := if fileE fd = 0 then clrF f fd.toNat 2 else f
def getV (f : Nat → Nat) (fd dir : Int) : Nat := if spotE fd dir = 0 then f (pl fd dir) else 0
def advE (now to : Nat) : Int := if to = 18446744073709551615 then 2 else if to < now then 3 else 0
def advN (now to : Nat) : Nat := if advE now to = 0 then to else now
def LapR (f : Nat → Nat) (now to : Nat) (l : List Lp) : Prop := if advE now to = 0 then IsLap f now to l else l = []
theorem LapR.one {f : Nat → Nat} {now to : Nat} {A B : List Lp} (ha : LapR f now to A) (hb : LapR f now to B) : A = B := by
 unfold LapR at ha hb
 split at ha
 ·rename_i e; rw [if_pos e] at hb; exact ha.one hb
 ·rename_i e; rw [if_neg e] at hb; rw [ha, hb]
section
variable {f : Nat → Nat} {now : Nat}
theorem DRel.fle {L : List Tm} {S : List Sl} (h : DRel f now L S) {i : Nat} (hi : i < 256) : f i ≤ 18446744073709551615 :=
 (h.at_ i _ (List.getElem?_eq_getElem (show i < S.length by rw [h.len]; exact hi))).2
theorem rset_any (D : List Lp) (ob : Option Nat) (c : Nat) (tl : List Value) (hr : RD f D) (own : Own ob D.length c 3 (D.flatMap encLp) tl) (hnow : now < 18446744073709551615) (fd dir : Int) (k : Nat) (hk : k ≤ 18446744073709551615) : Spec Tryz.prog 126 [.agg #[.int .u64 (now : Int), slV ob D.length c], .agg #[.int .i64 (fd), .int .i64 (dir)], .int .u64 (k : Int)] [⟨ob, cl (D.flatMap encLp ++ tl) 117⟩]
  (fun r H' => ∃ (D' : List Lp) (ob' : Option Nat) (c' : Nat) (tl' : List Value), r = .tuple #[.agg #[.int .u64 (now : Int), slV ob' D'.length c'], .bool (decide (spotE fd dir = 0 ∧ k ≤ now)), .int .i64 (spotE fd dir)] ∧ Own ob' D'.length c' 3 (D'.flatMap encLp) tl' ∧ RD (setF f fd dir k) D' ∧ H' = [⟨ob', cl (D'.flatMap encLp ++ tl') 117⟩]) := by
 unfold setF
 by_cases h : spotE fd dir = 0
 ·obtain ⟨a, b, h1, h2, rfl, rfl⟩ := spotE_nat h
  rw [if_pos h, pl_nat, h]
  refine Spec.less ((rset_ok D ob c tl hr own hnow a b h1 h2 k hk).mono fun r H' ⟨D', ob', c', tl', e1, e2, e3, e4⟩ => ⟨[⟨ob', cl (D'.flatMap encLp ++ tl') 117⟩], [⟨ob, cl (D.flatMap encLp ++ tl) 117⟩], e4, D', ob', c', tl', ?_, e2, e3, rfl⟩)
  rw [e1]
  have : decide (k ≠ 18446744073709551615 ∧ k ≤ now) = decide ((0 : Int) = 0 ∧ k ≤ now) := decide_eq_decide.2 (by omega)
  rw [this]
 ·have h2 := spotE_two h
  rw [if_neg h, h2]
  refine (rset_bad D ob c tl hr own fd dir h2 k).mono fun r H' ⟨e1, e2⟩ => ⟨D, ob, c, tl, ?_, own, hr, e2⟩
  rw [e1]; simp
theorem rclear_any (D : List Lp) (ob : Option Nat) (c : Nat) (tl : List Value) (hr : RD f D) (own : Own ob D.length c 3 (D.flatMap encLp) tl) (hnow : now < 18446744073709551615) (fd : Int) : Spec Tryz.prog 123 [.agg #[.int .u64 (now : Int), slV ob D.length c], .int .i64 fd] [⟨ob, cl (D.flatMap encLp ++ tl) 117⟩]
  (fun r H' => ∃ (D' : List Lp) (ob' : Option Nat) (c' : Nat) (tl' : List Value), r = .tuple #[.agg #[.int .u64 (now : Int), slV ob' D'.length c'], .int .i64 (fileE fd)] ∧ Own ob' D'.length c' 3 (D'.flatMap encLp) tl' ∧ RD (clearF f fd) D' ∧ H' = [⟨ob', cl (D'.flatMap encLp ++ tl') 117⟩]) := by
 unfold clearF
 by_cases h : fileE fd = 0
 ·obtain ⟨a, h1, rfl⟩ := fileE_nat h
  rw [if_pos h, h, Int.toNat_natCast]
  exact Spec.less ((rclear_ok D ob c tl hr own hnow a h1).mono fun r H' ⟨D', ob', c', tl', e1, e2, e3, e4⟩ => ⟨[⟨ob', cl (D'.flatMap encLp ++ tl') 117⟩], [⟨ob, cl (D.flatMap encLp ++ tl) 117⟩], e4, D', ob', c', tl', e1, e2, e3, rfl⟩)
 ·have h2 := fileE_two h
  rw [if_neg h, h2]
  exact (rclear_bad D ob c tl hr own fd h2).mono fun r H' ⟨e1, e2⟩ => ⟨D, ob, c, tl, e1, own, hr, e2⟩
theorem rpass_any (D : List Lp) (ob : Option Nat) (c : Nat) (tl : List Value) (hr : RD f D) (own : Own ob D.length c 3 (D.flatMap encLp) tl) (hnow : now < 18446744073709551615) (hf : ∀ i, i < 256 → f i ≤ 18446744073709551615) (fd dir : Int) : Spec Tryz.prog 168 [.agg #[.int .u64 (now : Int), slV ob D.length c], .agg #[.int .i64 (fd), .int .i64 (dir)]] [⟨ob, cl (D.flatMap encLp ++ tl) 117⟩] (fun r H' => r = .tuple #[.bool (decide (spotE fd dir = 0 ∧ getV f fd dir ≤ now)), .int .i64 (spotE fd dir)] ∧ H' = [⟨ob, cl (D.flatMap encLp ++ tl) 117⟩]) := by
 unfold getV
 by_cases h : spotE fd dir = 0
 ·obtain ⟨a, b, h1, h2, rfl, rfl⟩ := spotE_nat h
  rw [if_pos h, pl_nat, h]
  refine (rpass_ok D ob c tl hr own hnow a b h1 h2 (hf _ (by omega))).mono fun r H' ⟨e1, e2⟩ => ⟨?_, e2⟩
  rw [e1]; simp
 ·have h2 := spotE_two h
  rw [if_neg h, h2]
  refine (rpass_bad D ob c tl hr own fd dir h2).mono fun r H' ⟨e1, e2⟩ => ⟨?_, e2⟩
  rw [e1]; simp
theorem radv_any (D : List Lp) (ob : Option Nat) (c : Nat) (tl : List Value) (hr : RD f D) (own : Own ob D.length c 3 (D.flatMap encLp) tl) (hnow : now < 18446744073709551615) (to : Nat) (hto : to ≤ 18446744073709551615) : Spec Tryz.prog 132 [.agg #[.int .u64 (now : Int), slV ob D.length c], .int .u64 (to : Int)] [⟨ob, cl (D.flatMap encLp ++ tl) 117⟩]
  (fun r H' => ∃ (l : List Lp) (o2 : Option Nat) (c2 : Nat) (t2 : List Value), r = .tuple #[.agg #[.int .u64 ((advN now to : Nat) : Int), slV ob D.length c], slV o2 l.length c2, .int .i64 (advE now to)] ∧ Own o2 l.length c2 3 (l.flatMap encLp) t2 ∧ LapR f now to l ∧ H' = [⟨o2, cl (l.flatMap encLp ++ t2) 117⟩, ⟨ob, cl (D.flatMap encLp ++ tl) 117⟩]) := by
 by_cases h1 : to = 18446744073709551615
 ·subst h1
  have e : advE now 18446744073709551615 = 2 := by unfold advE; rw [if_pos rfl]
  unfold LapR advN
  rw [e, if_neg (by decide)]
  exact Spec.none 117 ((radv_never D ob c tl hr own).mono fun r H' ⟨e1, e2⟩ => ⟨⟨none, cl [] 117⟩, ⟨rfl, rfl⟩, [], none, 0, [], e1, Own.empty 3, by rw [if_neg (by decide)], by rw [e2]; rfl⟩)
 ·by_cases h2 : to < now
  ·have e : advE now to = 3 := by unfold advE; rw [if_neg h1, if_pos h2]
   unfold LapR advN
   rw [e, if_neg (by decide)]
   exact Spec.none 117 ((radv_past D ob c tl hr own hnow to h2).mono fun r H' ⟨e1, e2⟩ => ⟨⟨none, cl [] 117⟩, ⟨rfl, rfl⟩, [], none, 0, [], e1, Own.empty 3, by rw [if_neg (by decide)], by rw [e2]; rfl⟩)
  ·have e : advE now to = 0 := by unfold advE; rw [if_neg h1, if_neg h2]
   unfold LapR advN
   rw [e, if_pos rfl]
   exact (radv_ok D ob c tl hr own to (by omega) (by omega)).mono fun r H' ⟨l, o2, c2, t2, e1, e2, e3, e4⟩ => ⟨l, o2, c2, t2, e1, e2, by rw [if_pos rfl]; exact e3, e4⟩
end
end Go.Proofs.YtbkdebnkoidicaaGreat.Dr
end
section
set_option linter.unusedVariables false
set_option maxRecDepth 20000
namespace Go.Proofs.YtbkdebnkoidicaaGreat
abbrev tlE (o : Option Nat) (W : List Slt.Fl) (t : List Value) : Ent := ⟨o, cl (W.flatMap Slt.encL ++ t) 143⟩
structure RpM where
 W : List Slt.Fl
 ow : Option Nat
 cw : Nat
 tw : List Value
 D : List Lp
 od : Option Nat
 cd : Nat
 td : List Value
 l : RfM
 orr : Option Nat
 cr : Nat
 tr : List Value
abbrev rpV (z : PoS) (q : RpM) : Value := .agg #[.int .i64 128, slV q.ow q.W.length q.cw, .int .u64 (z.now : Int), slV q.od q.D.length q.cd, slV q.l.os z.s.sm.length q.l.sc, slV q.l.oq z.s.qm.length q.l.qc, slV q.l.ow z.s.W.length q.l.wc, slV q.orr z.R.length q.cr]
abbrev rpH (z : PoS) (q : RpM) : Heap := [tlE q.ow q.W q.tw, ⟨q.od, cl (q.D.flatMap encLp ++ q.td) 117⟩, ⟨q.l.os, cl (ivs z.s.sm ++ q.l.ts) 3⟩, ⟨q.l.oq, cl (ivs z.s.qm ++ q.l.tq) 3⟩, ⟨q.l.ow, cl (z.s.W.flatMap encWt ++ q.l.tw) 278⟩, ⟨q.orr, cl (ivs z.R ++ q.tr) 3⟩]
structure RpOk (K : Nat) (z : PoS) (q : RpM) : Prop where
 al : Slt.Alike z.T q.W
 wl : q.W.length ≤ K
 wo : Own q.ow q.W.length q.cw 4 (q.W.flatMap Slt.encL) q.tw
 rd : Dr.RD z.f q.D
 od : Own q.od q.D.length q.cd 3 (q.D.flatMap encLp) q.td
 l : RfOk z.s q.l
 ro : Own q.orr z.R.length q.cr 1 (ivs z.R) q.tr
structure PBase (z : PoS) : Prop where
 tl : z.T.length = 128
 ps : PsOk z.s
 hs : z.s.sm.length ≤ 64
 room : z.s.qm.length + z.s.W.length ≤ 64
 rl : z.R.length = z.s.sm.length
 nw : z.now < 18446744073709551615
 fle : ∀ i, i < 256 → z.f i ≤ 18446744073709551615
 pos : 1 ≤ z.s.sm.length
theorem PoIs.base {N : Nat} {z : PoS} {m : PoM} (h : PoIs N z m) : PBase z := ⟨h.tb.len, h.pk.ps, h.pk.ps.len, h.pk.room, h.rl, h.di.r.nv, fun i hi => (h.di.r.at_ i _ (List.getElem?_eq_getElem (by rw [h.di.r.len]; exact hi))).2, h.pos⟩
theorem PBase.all {z : PoS} (h : PBase z) (a : Sp) (why : Int) : PBase (z.all a why) := by
 have hr := wakes_room h.ps a h.room (z.s.waiting a).length (Nat.le_refl _)
 rw [List.take_length] at hr
 exact ⟨h.tl, wakeAll_ps h.ps a, by rw [show (z.all a why).s.sm.length = z.s.sm.length from wakeAll_sm h.ps a]; exact h.hs, hr, (markR_len _ _ _).trans (h.rl.trans (wakeAll_sm h.ps a).symm), h.nw, h.fle, by rw [show (z.all a why).s.sm.length = z.s.sm.length from wakeAll_sm h.ps a]; exact h.pos⟩
theorem rp_pass {z : PoS} (hl : z.T.length = 128) {n g dir : Int} (h : z.spE n g dir = 0) : (spotE (PoS.spA n dir).1 (PoS.spA n dir).2 = 0 ∧ Dr.getV z.f (PoS.spA n dir).1 (PoS.spA n dir).2 ≤ z.now) ↔ z.f (plS (n, dir)) ≤ z.now := by
 have hd : dir = 0 ∨ dir = 1 := by
  by_cases q : dir = 0 ∨ dir = 1
  ·exact q
  ·rw [spE_no z q] at h; cases h
 rw [spE_ok z hd] at h
 obtain ⟨j, x, _, rfl, hx, _, _⟩ := getT_open h
 have hj : j < 128 := by rw [← hl]; exact (List.getElem?_eq_some_iff.1 hx).1
 rw [spA_ok hd]
 dsimp only
 have hs : spotE (j : Int) dir = 0 := by unfold spotE; rw [if_pos ⟨by omega, by omega, hd⟩]
 unfold Dr.getV
 rw [if_pos hs]
 exact ⟨fun q => q.2, fun q => ⟨hs, q⟩⟩
theorem wait_lt2 {s : PS} (h : PsOk s) {a : Sp} {v : Int} (hv : v ∈ s.waiting a) : ∃ j : Nat, v = (j : Int) ∧ j < s.sm.length := by
 obtain ⟨_, w, hw, _, rfl⟩ := waiting_mem.1 hv
 exact ⟨w.i, rfl, wk_out h hw⟩
section
variable {T : List Slt.Pl} {W : List Slt.Fl} (hA : Slt.Alike T W) (ow : Option Nat) (cw : Nat) (tw : List Value) (hown : Own ow W.length cw 4 (W.flatMap Slt.encL) tw)
include hA hown
theorem t_get (n g : Int) : Spec Tryz.prog 136 [Slt.refV 128 ow W.length cw, Slt.fdV n g] [tlE ow W tw] (fun r H' => r = .tuple #[.int .i64 (getT T n g).1, .int .i64 (getT T n g).2] ∧ H' = [tlE ow W tw]) := by
 cases hq : tbAt T n g with
 | none =>
  have e1 : getT T n g = (0, 9) := by unfold getT; rw [hq]
  rw [e1]
  exact Slt.rget_none 128 ow cw W tw hown n g (hA.none (tbAt_none hq))
 | some q =>
  obtain ⟨rfl, hx, ho, rfl⟩ := tbAt_some hq
  have e1 : getT T (q.1 : Int) (q.2.given - 1) = (q.2.value, 0) := by unfold getT; rw [hq]
  rw [e1]
  obtain ⟨j, hj⟩ := hA.yes q.1 q.2 hx ho
  exact Slt.rget_yes 128 ow cw W tw hown (q.1 : Int) (q.2.given - 1) j _ hj rfl
theorem t_name (n : Int) : Spec Tryz.prog 138 [Slt.refV 128 ow W.length cw, .int .i64 n] [tlE ow W tw] (fun r H' => r = .tuple #[Slt.fdV (atT T n).1.1 (atT T n).1.2, .int .i64 (atT T n).2] ∧ H' = [tlE ow W tw]) := by
 by_cases h : OpN T n
 ·obtain ⟨i, x, rfl, hx, ho⟩ := h
  rw [atT_is hx ho]
  obtain ⟨j, hj⟩ := hA.yes i x hx ho
  exact Slt.rname_yes 128 ow cw W tw hown (i : Int) j _ hj
 ·have hno : Slt.NoOpen W n := by
   by_cases h0 : n < 0 ∨ (T.length : Int) ≤ n
   ·exact hA.out n h0
   ·obtain ⟨i, rfl⟩ := Int.eq_ofNat_of_zero_le (show 0 ≤ n by omega)
    obtain ⟨x, hx⟩ : ∃ x, T[i]? = some x := ⟨_, List.getElem?_eq_getElem (show i < T.length by omega)⟩
    refine hA.no i x hx ?_
    cases ho : x.opn with
    | false => rfl
    | true => exact absurd ⟨i, x, rfl, hx, ho⟩ h
  have e1 : atT T n = ((0, 0), 9) := by
   unfold atT
   split
   ·rename_i x hx
    split
    ·rename_i ho
     split at hx
     ·exact absurd ⟨n.toNat, x, by omega, hx, ho⟩ h
     ·cases hx
    ·rfl
   ·rfl
  rw [e1]
  exact Slt.rname_no 128 ow cw W tw hown n hno
theorem t_close_no (n g : Int) (h : (getT T n g).2 ≠ 0) : Spec Tryz.prog 122 [Slt.refV 128 ow W.length cw, Slt.fdV n g] [tlE ow W tw] (fun r H' => r = .tuple #[Slt.refV 128 ow W.length cw, .int .i64 0, .int .i64 (getT T n g).2] ∧ H' = [tlE ow W tw]) := by
 have hq : tbAt T n g = none := by
  cases hq : tbAt T n g with
  | none => rfl
  | some q => unfold getT at h; rw [hq] at h; exact absurd rfl h
 have e1 : (getT T n g).2 = 9 := by unfold getT; rw [hq]
 rw [e1]
 exact Slt.rclose_none 128 ow cw W tw hown n g (hA.none (tbAt_none hq))
theorem t_close (n g : Int) (h : (getT T n g).2 = 0) (hl : W.length ≤ 1000) : Spec Tryz.prog 122 [Slt.refV 128 ow W.length cw, Slt.fdV n g] [tlE ow W tw] (fun r H' => ∃ (W' : List Slt.Fl) (o' : Option Nat) (c' : Nat) (t' : List Value) (v : Int), r = .tuple #[Slt.refV 128 o' W'.length c', .int .i64 v, .int .i64 0] ∧ H' = [tlE o' W' t'] ∧ Own o' W'.length c' 4 (W'.flatMap Slt.encL) t' ∧ Slt.Alike (clsT T n g) W' ∧ W'.length = W.length) := by
 obtain ⟨i, x, hq, rfl, hx, ho, rfl⟩ := getT_open h
 obtain ⟨j, hj⟩ := hA.yes i x hx ho
 have e2 : clsT T (i : Int) (x.given - 1) = T.set i { x with opn := false } := by unfold clsT; rw [hq]
 refine (Slt.rclose_yes 128 ow cw W tw hown hl (i : Int) (x.given - 1) j _ hj rfl).mono fun r H' hp => ?_
 obtain ⟨V, rfl, o', c', t', rfl, ho', rfl⟩ := hp
 refine ⟨_, o', c', t', _, rfl, rfl, ho', ?_, List.length_set ..⟩
 rw [e2]
 exact Slt.alike_upd (y := { x with opn := false }) hA hx ho hj rfl rfl
theorem t_open_no (v : Int) (h : firstC T 0 = none) (hl : T.length = 128) : Spec Tryz.prog 120 [Slt.refV 128 ow W.length cw, .int .i64 v] [tlE ow W tw] (fun r H' => r = .tuple #[Slt.refV 128 ow W.length cw, Slt.fdV 0 0, .int .i64 7] ∧ H' = [tlE ow W tw]) := by
 rcases firstC_spec T 0 with ⟨h1, h2⟩ | ⟨i, x, h1, _⟩
 ·refine Slt.ropen_full 128 ow cw W tw hown v (by decide) (by decide) fun k hk => ?_
  obtain ⟨x, hx⟩ : ∃ x, T[k]? = some x := ⟨_, List.getElem?_eq_getElem (show k < T.length by omega)⟩
  obtain ⟨j, hj⟩ := hA.yes k x hx (h2 k x hx)
  exact ⟨j, _, hj⟩
 ·rw [h] at h1; cases h1
theorem t_open (v : Int) {i : Nat} {x : Slt.Pl} (h : firstC T 0 = some (i, x)) (hl : T.length = 128) (hw : W.length ≤ 1000) : Spec Tryz.prog 120 [Slt.refV 128 ow W.length cw, .int .i64 v] [tlE ow W tw] (fun r H' => ∃ (W' : List Slt.Fl) (o' : Option Nat) (c' : Nat) (t' : List Value), r = .tuple #[Slt.refV 128 o' W'.length c', Slt.fdV (i : Int) x.given, .int .i64 0] ∧ H' = [tlE o' W' t'] ∧ Own o' W'.length c' 4 (W'.flatMap Slt.encL) t' ∧ Slt.Alike (opnT T v) W' ∧ W'.length = W.length + 1) := by
 rcases firstC_spec T 0 with ⟨h1, h2⟩ | ⟨i', x', h1, h2, h3, h4⟩
 ·rw [h] at h1; cases h1
 ·rw [h, Nat.zero_add] at h1
  cases h1
  have e2 : opnT T v = T.set i ⟨x.given + 1, v, true⟩ := by unfold opnT; rw [h]
  have hi := (List.getElem?_eq_some_iff.1 h2).1
  refine (Slt.ropen_at 128 ow cw W tw hown hw v i (by omega) (by decide) (fun k hk => ?_) (hA.no i x h2 h3)).mono fun r H' hp => ?_
  ·obtain ⟨y, hy⟩ : ∃ y, T[k]? = some y := ⟨_, List.getElem?_eq_getElem (show k < T.length by omega)⟩
   obtain ⟨j, hj⟩ := hA.yes k y hy (h4 k y hk hy)
   exact ⟨j, _, hj⟩
  ·obtain ⟨V, rfl, o', c', t', rfl, ho', rfl⟩ := hp
   refine ⟨_, o', c', t', by rw [← hA.cnt i x h2], rfl, ho', ?_, by rw [List.length_append]; rfl⟩
   rw [e2]
   exact Slt.alike_open hA h2 h3 v
end
end Go.Proofs.YtbkdebnkoidicaaGreat
end
section
set_option linter.unusedVariables false
set_option maxRecDepth 20000
set_option maxHeartbeats 4000000
namespace Go.Proofs.YtbkdebnkoidicaaGreat
theorem rp_copy {K : Nat} {z : PoS} {q : RpM} (hb : PBase z) (hq : RpOk K z q) : Spec Tryz.prog 121 [rpV z q] [⟨q.orr, cl (ivs z.R ++ q.tr) 3⟩] (fun v H' => ∃ (o : Option Nat) (c : Nat) (t : List Value), v = rpV z { q with orr := o, cr := c, tr := t } ∧ Own o z.R.length c 1 (ivs z.R) t ∧ H' = [⟨o, cl (ivs z.R ++ t) 3⟩]) := by
 have hrl := hb.rl
 have hs := hb.hs
 refine Spec.of (E := [(0, rpV z q)]) Tryz.func121 rfl (by kernel_rfl) Tryz.ntmps121 rfl rfl (fun w => ?_)
 refine WC_seq (WC_region ?_)
 refine WL_do rfl rfl rfl (D_box (cs := [_, _, _, _, _, _, _, _]) rfl rfl rfl) ?_
 rintro _ _ ⟨b1, rfl, rfl⟩
 refine WL_do rfl rfl rfl (D_alloc rfl zv81) ?_
 rintro _ _ ⟨b2, rfl, rfl⟩
 refine WL_noneC 3 ?_
 refine WL_nil (WQ_code (WC_seq ?_))
 refine WC_drawR [⟨some b2, _⟩, ⟨(none), _⟩] [(0, true), (1, true), (2, true), (3, true), (4, true), (5, true), (6, true), (7, true), (8, false), (9, true), (10, false)] followsMixed rfl rfl (by kernel_rfl) (pqY) ?_
 refine WM_val rfl rfl rfl rfl (R_fieldAddr rfl fa81_0 rfl) ?_
 refine WM_val rfl rfl rfl rfl (R_loadA (vs := [_, _]) rfl ag71 rfl (mmY) rfl (atZ)) ?_
 refine WM_val rfl rfl rfl rfl (R_fieldAddr rfl fa81_1 rfl) ?_
 refine WM_val rfl rfl rfl rfl (R_loadA (vs := [_, _]) rfl ag74 rfl (mmY) rfl (atZ)) ?_
 refine WM_val rfl rfl rfl rfl (R_fieldAddr rfl fa81_2 rfl) ?_
 refine WM_val rfl rfl rfl rfl (R_loadA (vs := [_, _, _]) rfl ag79 rfl (mmY) rfl (atZ)) ?_
 refine WM_val rfl rfl rfl rfl (R_fieldAddr rfl fa81_3 rfl) ?_
 refine WM_val rfl rfl rfl rfl (R_load rfl sc34 rfl (mmY) rfl) ?_
 refine WM_do rfl rfl rfl rfl (D_appendO rfl si34 rfl (Own.empty 1) (plY) rfl hq.ro (mmY) (ivs_one _) (by omega) (by omega)) ?_
 rintro _ _ ⟨ob9, cap9, tl9, rfl, own9, rfl⟩
 refine ⟨⟨_, pqY⟩, ?_⟩
 rw [Nat.zero_add, List.nil_append] at own9 ⊢
 refine WM_val rfl rfl rfl rfl (R_build rfl zv81 pl81 rfl rfl) ?_
 refine WM_do0 rfl rfl rfl (D_store (vs := [_, _, _, _, _, _, _, _]) rfl Tryz.sizeOf81 rfl rfl rfl rfl rfl (plY) (Nat.le_of_ble_eq_true rfl)) ?_
 rintro _ _ rfl
 refine ⟨⟨_, pqY⟩, ?_⟩
 refine WM_nil (WQ_code (WC_ret ?_))
 refine WQ_ret rfl rfl (.cons (.cell (vs := [_, _, _, _, _, _, _, _]) rfl ag81 (mmY) rfl (atZ)) .nil) rfl (by
   exact ⟨ob9, cap9, tl9, rfl, own9, rfl⟩) (pqY)
theorem rp_spot {K : Nat} {z : PoS} {q : RpM} (hb : PBase z) (hq : RpOk K z q) (n g dir : Int) : Spec Tryz.prog 125 [rpV z q, .agg #[.int .i64 n, .int .i64 g], .int .i64 dir] [tlE q.ow q.W q.tw] (fun v H' => v = .tuple #[ekS (PoS.spA n dir), .int .i64 (z.spE n g dir)] ∧ H' = [tlE q.ow q.W q.tw]) := by
 refine Spec.of (E := [(0, rpV z q), (1, .agg #[.int .i64 n, .int .i64 g]), (2, .int .i64 dir)]) Tryz.func125 rfl (by kernel_rfl) Tryz.ntmps125 rfl rfl (fun w => ?_)
 refine WC_seq (WC_region ?_)
 refine WL_do rfl rfl rfl (D_box (cs := [_, _, _, _, _, _, _, _]) rfl rfl rfl) ?_
 rintro _ _ ⟨b1, rfl, rfl⟩
 refine WL_do rfl rfl rfl (D_box (cs := [_, _]) rfl rfl rfl) ?_
 rintro _ _ ⟨b2, rfl, rfl⟩
 refine WL_do rfl rfl rfl (D_alloc rfl zv108) ?_
 rintro _ _ ⟨b3, rfl, rfl⟩
 refine WLa rfl (WL_nil (WQ_code (WC_seq (WC_seq (WC_region (WLa rfl ?_))))))
 refine WL_val rfl rfl rfl (R_neq rfl rfl rfl) ?_
 refine WLa rfl ?_
 refine WL_splitD (s := 12) rfl (fun c1 => ?_) (fun c1 => ?_)
 ·refine WLa rfl ?_
  refine WL_val rfl rfl rfl (R_neq rfl rfl rfl) ?_
  refine WLa rfl (WL_nil (WQ_code ?_))
  refine WC_dec rfl (fun c2 => ?_) (fun c2 => ?_)
  ·refine WC_seq (WC_region ?_)
   refine WL_val rfl rfl rfl (R_build rfl zv108 pl108 rfl rfl) ?_
   refine WL_do0 rfl rfl (D_store (vs := [_, _]) rfl Tryz.sizeOf108 rfl rfl rfl rfl rfl (plY) (Nat.le_of_ble_eq_true rfl)) ?_
   rintro _ _ rfl
   refine WLa rfl (WL_nil (WQ_code (WC_ret ?_)))
   refine WQ_ret rfl rfl (.cons (.cell (vs := [_, _]) rfl ag108 (mmY) rfl (atZ)) (.cons (.tmp rfl) .nil)) rfl (by
     first | exact ⟨by rw [spA_no (by omega), spE_no z (by omega)]; rfl, rfl⟩ | exact ⟨by rw [spA_ok (by omega), spE_ok z (by omega)]; rfl, rfl⟩) (pqY)
  ·refine WC_skip (WQ_code (WC_seq (WC_region ?_)))
   refine WL_val rfl rfl rfl (R_fieldAddr rfl fa81_0 rfl) ?_
   refine WL_val rfl rfl rfl (R_loadA (vs := [_, _]) rfl ag71 rfl (mmY) rfl (atZ)) ?_
   refine WL_val rfl rfl rfl (R_loadA (vs := [_, _]) rfl ag30 rfl (mmY) rfl (atZ)) ?_
   refine WL_do rfl rfl rfl (D_call (t_get hq.al q.ow q.cw q.tw hq.wo n g) rfl rfl rfl rfl (pqY)) ?_
   rintro _ _ ⟨_, ⟨rfl, rfl⟩, rfl⟩
   refine WLa rfl (WLa rfl (WLa rfl (WLa rfl (WLa rfl (WL_nil (WQ_code (WC_seq (WC_region ?_))))))))
   refine WL_val rfl rfl rfl (R_fieldAddr rfl fa30_0 rfl) ?_
   refine WL_val rfl rfl rfl (R_load rfl sc3 rfl (mmY) rfl) ?_
   refine WLa rfl ?_
   refine WL_val rfl rfl rfl (R_build rfl zv108 pl108 rfl rfl) ?_
   refine WLa rfl ?_
   refine WL_do0 rfl rfl (D_store (vs := [_, _]) rfl Tryz.sizeOf108 rfl rfl rfl rfl rfl (plY) (Nat.le_of_ble_eq_true rfl)) ?_
   rintro _ _ rfl
   refine WLa rfl (WL_nil (WQ_code (WC_ret ?_)))
   refine WQ_ret rfl rfl (.cons (.cell (vs := [_, _]) rfl ag108 (mmY) rfl (atZ)) (.cons (.tmp rfl) .nil)) rfl (by
     first | exact ⟨by rw [spA_no (by omega), spE_no z (by omega)]; rfl, rfl⟩ | exact ⟨by rw [spA_ok (by omega), spE_ok z (by omega)]; rfl, rfl⟩) (pqY)
 ·refine WL_skip rfl rfl rfl ?_
  refine WL_skip rfl rfl rfl ?_
  refine WLa rfl (WL_nil (WQ_code ?_))
  refine WC_F rfl ?_
  refine WC_skip (WQ_code (WC_seq (WC_region ?_)))
  refine WL_val rfl rfl rfl (R_fieldAddr rfl fa81_0 rfl) ?_
  refine WL_val rfl rfl rfl (R_loadA (vs := [_, _]) rfl ag71 rfl (mmY) rfl (atZ)) ?_
  refine WL_val rfl rfl rfl (R_loadA (vs := [_, _]) rfl ag30 rfl (mmY) rfl (atZ)) ?_
  refine WL_do rfl rfl rfl (D_call (t_get hq.al q.ow q.cw q.tw hq.wo n g) rfl rfl rfl rfl (pqY)) ?_
  rintro _ _ ⟨_, ⟨rfl, rfl⟩, rfl⟩
  refine WLa rfl (WLa rfl (WLa rfl (WLa rfl (WLa rfl (WL_nil (WQ_code (WC_seq (WC_region ?_))))))))
  refine WL_val rfl rfl rfl (R_fieldAddr rfl fa30_0 rfl) ?_
  refine WL_val rfl rfl rfl (R_load rfl sc3 rfl (mmY) rfl) ?_
  refine WLa rfl ?_
  refine WL_val rfl rfl rfl (R_build rfl zv108 pl108 rfl rfl) ?_
  refine WLa rfl ?_
  refine WL_do0 rfl rfl (D_store (vs := [_, _]) rfl Tryz.sizeOf108 rfl rfl rfl rfl rfl (plY) (Nat.le_of_ble_eq_true rfl)) ?_
  rintro _ _ rfl
  refine WLa rfl (WL_nil (WQ_code (WC_ret ?_)))
  refine WQ_ret rfl rfl (.cons (.cell (vs := [_, _]) rfl ag108 (mmY) rfl (atZ)) (.cons (.tmp rfl) .nil)) rfl (by
    first | exact ⟨by rw [spA_no (by omega), spE_no z (by omega)]; rfl, rfl⟩ | exact ⟨by rw [spA_ok (by omega), spE_ok z (by omega)]; rfl, rfl⟩) (pqY)
theorem rp_chk {K : Nat} {z : PoS} {q : RpM} (hb : PBase z) (hq : RpOk K z q) (n g dir : Int) : Spec Tryz.prog 127 [rpV z q, .agg #[.int .i64 n, .int .i64 g], .int .i64 dir] [tlE q.ow q.W q.tw, ⟨q.od, cl (q.D.flatMap encLp ++ q.td) 117⟩] (fun v H' => v = .int .i64 (z.chk n g dir) ∧ H' = [tlE q.ow q.W q.tw, ⟨q.od, cl (q.D.flatMap encLp ++ q.td) 117⟩]) := by
 refine Spec.of (E := [(0, rpV z q), (1, .agg #[.int .i64 n, .int .i64 g]), (2, .int .i64 dir)]) Tryz.func127 rfl (by kernel_rfl) Tryz.ntmps127 rfl rfl (fun w => ?_)
 refine WC_seq (WC_region ?_)
 refine WL_do rfl rfl rfl (D_box (cs := [_, _, _, _, _, _, _, _]) rfl rfl rfl) ?_
 rintro _ _ ⟨b1, rfl, rfl⟩
 refine WL_do rfl rfl rfl (D_box (cs := [_, _]) rfl rfl rfl) ?_
 rintro _ _ ⟨b2, rfl, rfl⟩
 refine WLa rfl (WL_nil (WQ_code (WC_seq (WC_region ?_))))
 refine WL_val rfl rfl rfl (R_loadA (vs := [_, _, _, _, _, _, _, _]) rfl ag81 rfl (mmY) rfl (atZ)) ?_
 refine WL_val rfl rfl rfl (R_loadA (vs := [_, _]) rfl ag30 rfl (mmY) rfl (atZ)) ?_
 refine WLa rfl ?_
 refine WL_do rfl rfl rfl (D_call (rp_spot hb hq n g dir) rfl rfl rfl rfl (pqY)) ?_
 rintro _ _ ⟨_, ⟨rfl, rfl⟩, rfl⟩
 refine WLa rfl (WLa rfl (WLa rfl ?_))
 refine WL_do rfl rfl rfl (D_alloc rfl zv108) ?_
 rintro _ _ ⟨b3, rfl, rfl⟩
 refine WL_do0 rfl rfl (D_store (vs := [_, _]) rfl Tryz.sizeOf108 rfl rfl rfl rfl rfl (plY) (Nat.le_of_ble_eq_true rfl)) ?_
 rintro _ _ rfl
 refine WLa rfl (WL_nil (WQ_code (WC_seq (WC_seq (WC_region (WLa rfl ?_))))))
 refine WL_val rfl rfl rfl (R_neq rfl rfl rfl) ?_
 refine WL_nil (WQ_code ?_)
 refine WC_dec rfl (fun c1 => ?_) (fun c1 => ?_)
 ·have e9 : z.chk n g dir = z.spE n g dir := by unfold PoS.chk; rw [if_neg c1]
  refine WC_seq (WC_region (WLa rfl (WLa rfl (WL_nil (WQ_code (WC_ret ?_))))))
  refine WQ_ret rfl rfl (.cons (.tmp rfl) .nil) rfl (by
    exact ⟨by rw [e9]; rfl, rfl⟩) (pqY)
 ·have h0 : z.spE n g dir = 0 := Decidable.not_not.1 c1
  have hps := rp_pass hb.tl h0
  refine WC_skip (WQ_code (WC_seq (WC_seq (WC_region ?_))))
  refine WL_val rfl rfl rfl (R_fieldAddr rfl fa81_1 rfl) ?_
  refine WL_val rfl rfl rfl (R_loadA (vs := [_, _]) rfl ag74 rfl (mmY) rfl (atZ)) ?_
  refine WL_val rfl rfl rfl (R_loadA (vs := [_, _]) rfl ag108 rfl (mmY) rfl (atZ)) ?_
  refine WL_do rfl rfl rfl (D_call (Dr.rpass_any q.D q.od q.cd q.td hq.rd hq.od hb.nw hb.fle (PoS.spA n dir).1 (PoS.spA n dir).2) rfl rfl rfl rfl (pqY)) ?_
  rintro _ _ ⟨_, ⟨rfl, rfl⟩, rfl⟩
  refine WLa rfl (WLa rfl (WLa rfl (WLa rfl (WLa rfl (WL_nil (WQ_code (WC_seq (WC_region (WLa rfl (WL_nil (WQ_code ?_)))))))))))
  refine WC_dec rfl (fun c2 => ?_) (fun c2 => ?_)
  ·have e9 : z.chk n g dir = 12 := by unfold PoS.chk; rw [if_pos h0, if_pos (hps.1 c2)]
   refine WC_seq (WC_region (WLa rfl (WL_nil (WQ_code (WC_ret ?_)))))
   refine WQ_ret rfl rfl (.cons (.tmp rfl) .nil) rfl (by
     exact ⟨by rw [e9]; rfl, rfl⟩) (pqY)
  ·have e9 : z.chk n g dir = 0 := by unfold PoS.chk; rw [if_pos h0, if_neg (fun e => c2 (hps.2 e))]
   refine WC_skip (WQ_code (WC_seq (WC_region (WLa rfl (WL_nil (WQ_code (WC_ret ?_)))))))
   refine WQ_ret rfl rfl (.cons (.tmp rfl) .nil) rfl (by
     exact ⟨by rw [e9]; rfl, rfl⟩) (pqY)
theorem rp_all {K : Nat} {z : PoS} {q : RpM} (hb : PBase z) (hq : RpOk K z q) (a : Sp) (why : Int) : Spec Tryz.prog 124 [rpV z q, ekS a, .int .i64 why] (rpH z q) (fun v H' => ∃ (q' : RpM) (ob : Option Nat) (c : Nat) (tl : List Value), v = .tuple #[rpV (z.all a why) q', slV ob (z.s.waiting a).length c] ∧ Own ob (z.s.waiting a).length c 1 (ivs (z.s.waiting a)) tl ∧ H' = ⟨ob, cl (ivs (z.s.waiting a) ++ tl) 3⟩ :: rpH (z.all a why) q' ∧ RpOk K (z.all a why) q') := by
 have hwl := waiting_len hb.ps a
 have hrl := hb.rl
 have hpos := hb.pos
 have hs := hb.hs
 refine Spec.of (E := [(0, rpV z q), (1, ekS a), (2, .int .i64 why)]) Tryz.func124 rfl (by kernel_rfl) Tryz.ntmps124 rfl rfl (fun w => ?_)
 refine WC_seq (WC_region ?_)
 refine WL_do rfl rfl rfl (D_box (cs := [_, _, _, _, _, _, _, _]) rfl rfl rfl) ?_
 rintro _ _ ⟨b1, rfl, rfl⟩
 refine WL_do rfl rfl rfl (D_box (cs := [_, _]) rfl rfl rfl) ?_
 rintro _ _ ⟨b2, rfl, rfl⟩
 refine WL_do rfl rfl rfl (D_alloc rfl zv81) ?_
 rintro _ _ ⟨b3, rfl, rfl⟩
 refine WLa rfl (WL_nil (WQ_code (WC_seq (WC_region ?_))))
 refine WL_val rfl rfl rfl (R_loadA (vs := [_, _, _, _, _, _, _, _]) rfl ag81 rfl (mmY) rfl (atZ)) ?_
 refine WL_do rfl rfl rfl (D_call (rp_copy hb hq) rfl rfl rfl rfl (pqY)) ?_
 rintro _ _ ⟨_, ⟨o1, cR, tR, rfl, w1, rfl⟩, rfl⟩
 obtain ⟨rb, rfl⟩ := w1.some_of (by omega)
 refine WL_do rfl rfl rfl (D_alloc rfl zv81) ?_
 rintro _ _ ⟨b4, rfl, rfl⟩
 refine WL_do0 rfl rfl (D_store (vs := [_, _, _, _, _, _, _, _]) rfl Tryz.sizeOf81 rfl rfl rfl rfl rfl (plY) (Nat.le_of_ble_eq_true rfl)) ?_
 rintro _ _ rfl
 refine WL_nil (WQ_code (WC_seq (WC_region ?_)))
 refine WL_val rfl rfl rfl (R_fieldAddr rfl fa81_2 rfl) ?_
 refine WL_val rfl rfl rfl (R_loadA (vs := [_, _, _]) rfl ag79 rfl (mmY) rfl (atZ)) ?_
 refine WL_val rfl rfl rfl (R_loadA (vs := [_, _]) rfl ag108 rfl (mmY) rfl (atZ)) ?_
 refine WL_do rfl rfl rfl (D_call (rf_wakeall z.s q.l hq.l hb.hs hb.room hb.ps a) rfl rfl rfl rfl (pqY)) ?_
 rintro _ _ ⟨_, ⟨r2, o2, cW, tW, rfl, w2, rfl, hr2⟩, rfl⟩
 refine WLa rfl (WLa rfl (WLa rfl (WLa rfl ?_)))
 refine WL_do rfl rfl rfl (D_alloc rfl zv79) ?_
 rintro _ _ ⟨b5, rfl, rfl⟩
 refine WL_do0 rfl rfl (D_store (vs := [_, _, _]) rfl Tryz.sizeOf79 rfl rfl rfl rfl rfl (plY) (Nat.le_of_ble_eq_true rfl)) ?_
 rintro _ _ rfl
 refine WLa rfl (WLa rfl (WL_nil (WQ_code (WC_seq (WC_region ?_)))))
 refine WL_val rfl rfl rfl (R_loadA (vs := [_, _, _]) rfl ag79 rfl (mmY) rfl (atZ)) ?_
 refine WL_val rfl rfl rfl (R_fieldAddr rfl fa81_2 rfl) ?_
 refine WL_do0 rfl rfl (D_store (vs := [_, _, _]) rfl Tryz.sizeOf79 rfl rfl rfl rfl rfl (plY) (Nat.le_of_ble_eq_true rfl)) ?_
 rintro _ _ rfl
 refine WL_nil (WQ_code (WC_seq (WC_seq (WC_region (WLa rfl (WL_nil (WQ_code (WC_block ?_))))))))
 refine WC_loopF (G := MkW) [12, 25, 26, 27, 28, 29, 30, 31, 32, 33, 34, 35, 36, 37, 38] (fun y => y.k ≤ (z.s.waiting a).length ∧ y.L = markR z.R ((z.s.waiting a).take y.k) why) (fun y => [(12, .int .i64 (y.k : Int))]) (fun y => [⟨some rb, cl (ivs y.L ++ tR) 3⟩]) (fun y => (z.s.waiting a).length - y.k) (⟨0, z.R⟩) (⟨Nat.zero_le _, by rw [List.take_zero]; rfl⟩) leZ (pqY) ?_
 rintro y ⟨hyk, hyL⟩
 refine WC_seq (WC_seq (WC_region (WLa rfl (WLa rfl ?_))))
 refine WL_val rfl rfl rfl (R_len rfl Tryz.underlying34 rfl) ?_
 refine WL_val rfl rfl rfl (R_lss rfl rfl rfl) ?_
 refine WL_nil (WQ_code ?_)
 refine WC_dec rfl (fun c1 => ?_) (fun c1 => ?_)
 ·refine WC_skip (WQ_code (WC_seq (WC_block ?_)))
  refine WC_drawR [⟨some rb, _⟩] [(0, true), (1, true), (2, true), (3, true), (4, true), (5, true), (6, true), (7, true), (8, false)] followsMixed rfl rfl (by kernel_rfl) (pqY) ?_
  obtain ⟨v, hx⟩ := exE (T := z.s.waiting a) (i := y.k) (by omega)
  obtain ⟨j, rfl, hj⟩ := wait_lt2 hb.ps (List.mem_of_getElem? hx)
  obtain ⟨wb, hwb⟩ := w2.some_of (by omega)
  rw [hwb]
  have hml : y.L.length = z.R.length := by rw [hyL]; exact markR_len _ _ _
  obtain ⟨u9, hu9⟩ := exE (T := y.L) (i := j) (by omega)
  refine WM_val rfl rfl rfl rfl (R_fieldAddr rfl fa81_3 rfl) ?_
  refine WM_val rfl rfl rfl rfl (R_load rfl sc34 rfl (mmY) rfl) ?_
  refine WMa rfl (WMa rfl ?_)
  refine WM_val rfl rfl rfl rfl (R_indexAddrN rfl Tryz.underlying34 Tryz.sizeOf3 rfl rfl (by omega)) ?_
  refine WM_val rfl rfl rfl rfl (R_load (v := .int .i64 (j : Int)) rfl sc3 rfl (mmY) (fm_get0 encI1 hx (j := 0) (by omega))) ?_
  refine WMa rfl ?_
  refine WM_val rfl rfl rfl rfl (R_indexAddrN rfl Tryz.underlying34 Tryz.sizeOf3 rfl rfl (by omega)) ?_
  refine WM_do0 rfl rfl rfl (D_store (vs := [_]) rfl Tryz.sizeOf3 rfl rfl rfl rfl rfl (plY) (by exact fm_room0 encI1 (show j < y.L.length by omega) (j := 0) (by omega))) ?_
  rintro _ _ rfl
  refine ⟨⟨_, pqY⟩, ?_⟩
  have hput : putAt (ivs y.L ++ tR) (0 + j * 1) [.int .i64 why] = ivs (y.L.set j why) ++ tR := fm_put0 encI1 why hu9 (j := 0) (vs := [.int .i64 why]) (by simp) rfl (tl := tR)
  rw [hput]
  refine WM_nil (WQ_code (WC_region (WLa rfl ?_)))
  refine WL_val rfl rfl rfl (R_add rfl rfl rfl (by omega)) ?_
  refine WLa rfl (WL_nil ?_)
  refine WQ_nextF (gg := y) (⟨y.k + 1, y.L.set j why⟩) (⟨by dsimp only; omega, by dsimp only; rw [markR_next hx, Int.toNat_natCast, hyL]⟩) (by dsimp only; omega) leZ (psZ) rfl (pqY)
 ·have hyl : y.k = (z.s.waiting a).length := by omega
  have hfin : y.L = markR z.R (z.s.waiting a) why := by rw [hyL, hyl, List.take_length]
  have hml : (z.all a why).R.length = z.R.length := markR_len _ _ _
  rw [hfin, ← hml]
  refine WC_exit (WQ_code (WC_seq (WC_region ?_)))
  refine WL_val rfl rfl rfl (R_loadA (vs := [_, _, _, _, _, _, _, _]) rfl ag81 rfl (mmY) rfl (atZ)) ?_
  refine WLa rfl ?_
  refine WL_do0 rfl rfl (D_store (vs := [_, _, _, _, _, _, _, _]) rfl Tryz.sizeOf81 rfl rfl rfl rfl rfl (plY) (Nat.le_of_ble_eq_true rfl)) ?_
  rintro _ _ rfl
  refine WLa rfl (WL_nil (WQ_code (WC_ret ?_)))
  refine WQ_ret rfl rfl (.cons (.cell (vs := [_, _, _, _, _, _, _, _]) rfl ag81 (mmY) rfl (atZ)) (.cons (.tmp rfl) .nil)) rfl (by
    exact ⟨{ q with l := r2, orr := some rb, cr := cR, tr := tR }, o2, cW, tW, rfl, w2, rfl, ⟨hq.al, hq.wl, hq.wo, hq.rd, hq.od, hr2, own_sm w1 hml⟩⟩) (pqY)
end Go.Proofs.YtbkdebnkoidicaaGreat
end
section
set_option linter.unusedVariables false
set_option maxRecDepth 20000
set_option maxHeartbeats 4000000
namespace Go.Proofs.YtbkdebnkoidicaaGreat
theorem rf_start_bad (s : PS) (r : RfM) (hr : RfOk s r) (hs : s.sm.length ≤ 64) (hroom : s.qm.length + s.W.length ≤ 64) (i : Int) (h : (stepR s.sm s.qm 0 1 i).1 ≠ 0) : Spec Tryz.prog 133 [rfV s r, .int .i64 i] (rfH s r) (fun v H' => v = .tuple #[rfV s r, .int .i64 (stepR s.sm s.qm 0 1 i).1] ∧ H' = rfH s r) := by
 refine Spec.of (E := [(0, rfV s r), (1, .int .i64 i)]) Tryz.func133 rfl (by kernel_rfl) Tryz.ntmps133 rfl rfl (fun w => ?_)
 refine WC_seq (WC_region ?_)
 refine WL_do rfl rfl rfl (D_box (cs := [_, _, _]) rfl rfl rfl) ?_
 rintro _ _ ⟨b1, rfl, rfl⟩
 refine WL_do rfl rfl rfl (D_alloc rfl zv79) ?_
 rintro _ _ ⟨b2, rfl, rfl⟩
 refine WLa rfl (WL_nil (WQ_code (WC_seq ?_)))
 refine WC_drawR (⟨some b2, _⟩ :: rH r.os s.sm r.ts r.oq s.qm r.tq) [(0, true), (1, true), (2, true), (3, true), (4, false), (5, true), (6, true), (7, false), (8, true), (9, true), (10, false), (11, true)] followsMixed rfl rfl (by kernel_rfl) (pqY) ?_
 refine WM_val rfl rfl rfl rfl (R_loadA (vs := [_, _, _]) rfl ag79 rfl (mmY) rfl (atZ)) ?_
 refine WM_val rfl rfl rfl rfl (R_fieldAddr rfl fa79_0 rfl) ?_
 refine WM_val rfl rfl rfl rfl (R_loadA (vs := [_, _]) rfl ag76 rfl (mmY) rfl (atZ)) ?_
 refine WMa rfl ?_
 refine WM_do rfl rfl rfl rfl (D_call (rstart_bad s.sm s.qm r.os r.sc r.ts r.oq r.qc r.tq hr.os hr.oq i h) rfl rfl rfl rfl (pqY)) ?_
 rintro _ _ ⟨_, ⟨rfl, rfl⟩, rfl⟩
 refine ⟨⟨_, pqY⟩, ?_⟩
 refine WMa rfl (WMa rfl ?_)
 refine WM_do rfl rfl rfl rfl (D_call (with_bad _ _ _ _ _ _ _ _ _ _ _ _ _ _ _ _ h) rfl rfl rfl rfl (pqY)) ?_
 rintro _ _ ⟨_, ⟨rfl, rfl⟩, rfl⟩
 refine ⟨⟨_, pqY⟩, ?_⟩
 refine WMa rfl (WMa rfl ?_)
 refine WM_do0 rfl rfl rfl (D_store (vs := [_, _, _]) rfl Tryz.sizeOf79 rfl rfl rfl rfl rfl (plY) (Nat.le_of_ble_eq_true rfl)) ?_
 rintro _ _ rfl
 refine ⟨⟨_, pqY⟩, ?_⟩
 refine WMa rfl (WM_nil (WQ_code (WC_ret ?_)))
 refine WQ_ret rfl rfl (.cons (.cell (vs := [_, _, _]) rfl ag79 (mmY) rfl (atZ)) (.cons (.tmp rfl) .nil)) rfl (by
   exact ⟨rfl, rfl⟩) (pqY)
theorem rf_wake_bad (s : PS) (r : RfM) (hr : RfOk s r) (hs : s.sm.length ≤ 64) (hroom : s.qm.length + s.W.length ≤ 64) (hp : PsOk s) (a : Sp) (h : (s.wakeR a).2 ≠ 0) : Spec Tryz.prog 129 [rfV s r, ekS a] (rfH s r) (fun v H' => v = .tuple #[rfV s r, .int .i64 (s.wakeR a).1, .int .i64 (s.wakeR a).2] ∧ H' = rfH s r) := by
 refine Spec.of (E := [(0, rfV s r), (1, ekS a)]) Tryz.func129 rfl (by kernel_rfl) Tryz.ntmps129 rfl rfl (fun w => ?_)
 refine WC_seq (WC_region ?_)
 refine WL_do rfl rfl rfl (D_box (cs := [_, _, _]) rfl rfl rfl) ?_
 rintro _ _ ⟨b1, rfl, rfl⟩
 refine WL_do rfl rfl rfl (D_box (cs := [_, _]) rfl rfl rfl) ?_
 rintro _ _ ⟨b2, rfl, rfl⟩
 refine WL_do rfl rfl rfl (D_alloc rfl zv79) ?_
 rintro _ _ ⟨b3, rfl, rfl⟩
 refine WLa rfl (WLa rfl (WL_nil (WQ_code (WC_seq (WC_region ?_)))))
 refine WL_val rfl rfl rfl (R_loadA (vs := [_, _, _]) rfl ag79 rfl (mmY) rfl (atZ)) ?_
 refine WL_val rfl rfl rfl (R_loadA (vs := [_, _]) rfl ag108 rfl (mmY) rfl (atZ)) ?_
 refine WL_do rfl rfl rfl (D_call (rf_waiting s r hr hs hroom a) rfl rfl rfl rfl (pqY)) ?_
 rintro _ _ ⟨_, ⟨ob, c', tl', rfl, own', rfl⟩, rfl⟩
 refine WLa rfl (WLa rfl (WLa rfl (WLa rfl (WLa rfl (WL_nil (WQ_code (WC_seq (WC_seq (WC_region (WLa rfl ?_))))))))))
 refine WL_val rfl rfl rfl (R_neq rfl rfl rfl) ?_
 refine WL_nil (WQ_code ?_)
 refine WC_dec rfl (fun c1 => ?_) (fun c1 => ?_)
 ·have hv : ¬ vldS a := fun h9 => by unfold spE at c1; rw [if_pos h9] at c1; exact c1 rfl
  have e9 := wakeR_bad s hv
  have hsp : spE a = 2 := if_neg hv
  refine WC_seq (WC_region ?_)
  refine WL_val rfl rfl rfl (R_loadA (vs := [_, _, _]) rfl ag79 rfl (mmY) rfl (atZ)) ?_
  refine WLa rfl ?_
  refine WL_do0 rfl rfl (D_store (vs := [_, _, _]) rfl Tryz.sizeOf79 rfl rfl rfl rfl rfl (plY) (Nat.le_of_ble_eq_true rfl)) ?_
  rintro _ _ rfl
  refine WLa rfl (WLa rfl (WL_nil (WQ_code (WC_ret ?_))))
  refine WQ_ret rfl rfl (.cons (.cell (vs := [_, _, _]) rfl ag79 (mmY) rfl (atZ)) (.cons (.tmp rfl) (.cons (.tmp rfl) .nil))) rfl (by
    rw [e9, hsp]
    exact ⟨rfl, rfl⟩) (pqY)
 ·have hv : vldS a := by by_cases h9 : vldS a; exact h9; (unfold spE at c1; rw [if_neg h9] at c1; exact absurd (by decide) c1)
  have hwt : s.waiting a = wAt s.W a := by unfold PS.waiting; rw [if_pos hv]
  refine WC_skip (WQ_code (WC_seq (WC_seq (WC_region (WLa rfl ?_)))))
  refine WL_val rfl rfl rfl (R_len rfl Tryz.underlying34 rfl) ?_
  refine WL_val rfl rfl rfl (R_eql rfl rfl rfl) ?_
  refine WL_nil (WQ_code ?_)
  refine WC_dec rfl (fun c2 => ?_) (fun c2 => ?_)
  ·have e9 := wakeR_none s hv (by rw [← hwt]; exact List.eq_nil_of_length_eq_zero (by omega))
   refine WC_seq (WC_region ?_)
   refine WL_val rfl rfl rfl (R_loadA (vs := [_, _, _]) rfl ag79 rfl (mmY) rfl (atZ)) ?_
   refine WL_do0 rfl rfl (D_store (vs := [_, _, _]) rfl Tryz.sizeOf79 rfl rfl rfl rfl rfl (plY) (Nat.le_of_ble_eq_true rfl)) ?_
   rintro _ _ rfl
   refine WLa rfl (WLa rfl (WL_nil (WQ_code (WC_ret ?_))))
   refine WQ_ret rfl rfl (.cons (.cell (vs := [_, _, _]) rfl ag79 (mmY) rfl (atZ)) (.cons (.tmp rfl) (.cons (.tmp rfl) .nil))) rfl (by
     rw [e9]
     exact ⟨rfl, rfl⟩) (pqY)
  ·obtain ⟨v, hx⟩ := exE (T := s.waiting a) (i := 0) (by omega)
   have e9 := wakeR_some s hv (hwt ▸ hx)
   exact absurd (by rw [e9]) h
theorem rp_start {K : Nat} {z : PoS} {q : RpM} (hb : PBase z) (hq : RpOk K z q) (i : Int) : Spec Tryz.prog 70 [rpV z q, .int .i64 i] (rpH z q) (fun v H' => ∃ q' : RpM, v = .tuple #[rpV (z.start i) q', .int .i64 (stepR z.s.sm z.s.qm 0 1 i).1] ∧ H' = rpH (z.start i) q' ∧ RpOk K (z.start i) q') := by
 have hrl := hb.rl
 by_cases h0 : (stepR z.s.sm z.s.qm 0 1 i).1 = 0
 ·obtain ⟨j, rfl, hj⟩ := stepR_zero h0
  have hst : z.start (j : Int) = { z with s := z.s.step 0 1 (j : Int), R := z.R.set j 0 } := by unfold PoS.start; rw [if_pos h0, Int.toNat_natCast]
  have e : (z.R.set j 0).length = z.R.length := List.length_set ..
  obtain ⟨u9, hu9⟩ := exE (T := z.R) (i := j) (by omega)
  rw [h0, hst]
  refine Spec.of (E := [(0, rpV z q), (1, .int .i64 (j : Int))]) Tryz.func70 rfl (by kernel_rfl) Tryz.ntmps70 rfl rfl (fun w => ?_)
  refine WC_seq (WC_region ?_)
  refine WL_do rfl rfl rfl (D_box (cs := [_, _, _, _, _, _, _, _]) rfl rfl rfl) ?_
  rintro _ _ ⟨b1, rfl, rfl⟩
  refine WL_do rfl rfl rfl (D_alloc rfl zv81) ?_
  rintro _ _ ⟨b2, rfl, rfl⟩
  refine WLa rfl (WL_nil (WQ_code (WC_seq (WC_region ?_))))
  refine WL_val rfl rfl rfl (R_fieldAddr rfl fa81_2 rfl) ?_
  refine WL_val rfl rfl rfl (R_loadA (vs := [_, _, _]) rfl ag79 rfl (mmY) rfl (atZ)) ?_
  refine WLa rfl ?_
  refine WL_do rfl rfl rfl (D_call (rf_start z.s q.l hq.l hb.hs hb.room (j : Int)) rfl rfl rfl rfl (pqY)) ?_
  rintro _ _ ⟨_, ⟨r2, rfl, rfl, hr2⟩, rfl⟩
  refine WLa rfl (WLa rfl (WLa rfl ?_))
  refine WL_do rfl rfl rfl (D_alloc rfl zv79) ?_
  rintro _ _ ⟨b3, rfl, rfl⟩
  refine WL_do0 rfl rfl (D_store (vs := [_, _, _]) rfl Tryz.sizeOf79 rfl rfl rfl rfl rfl (plY) (Nat.le_of_ble_eq_true rfl)) ?_
  rintro _ _ rfl
  refine WLa rfl (WL_nil (WQ_code (WC_seq (WC_seq (WC_region (WLa rfl ?_))))))
  refine WL_val rfl rfl rfl (R_neq rfl rfl rfl) ?_
  refine WL_set (s := 17) (v := .bool false) rfl (by exact congrArg Value.bool (decide_eq_false (fun q => q h0))) ?_
  refine WL_nil (WQ_code ?_)
  refine WC_F rfl ?_
  refine WC_skip (WQ_code (WC_seq (WC_region ?_)))
  refine WL_val rfl rfl rfl (R_loadA (vs := [_, _, _, _, _, _, _, _]) rfl ag81 rfl (mmY) rfl (atZ)) ?_
  refine WL_do rfl rfl rfl (D_call (rp_copy hb hq) rfl rfl rfl rfl (pqY)) ?_
  rintro _ _ ⟨_, ⟨o1, cR, tR, rfl, w1, rfl⟩, rfl⟩
  obtain ⟨rb, rfl⟩ := w1.some_of (by omega)
  refine WL_do rfl rfl rfl (D_alloc rfl zv81) ?_
  rintro _ _ ⟨b4, rfl, rfl⟩
  refine WL_do0 rfl rfl (D_store (vs := [_, _, _, _, _, _, _, _]) rfl Tryz.sizeOf81 rfl rfl rfl rfl rfl (plY) (Nat.le_of_ble_eq_true rfl)) ?_
  rintro _ _ rfl
  refine WL_nil (WQ_code (WC_seq (WC_region ?_)))
  refine WL_val rfl rfl rfl (R_loadA (vs := [_, _, _]) rfl ag79 rfl (mmY) rfl (atZ)) ?_
  refine WL_val rfl rfl rfl (R_fieldAddr rfl fa81_2 rfl) ?_
  refine WL_do0 rfl rfl (D_store (vs := [_, _, _]) rfl Tryz.sizeOf79 rfl rfl rfl rfl rfl (plY) (Nat.le_of_ble_eq_true rfl)) ?_
  rintro _ _ rfl
  refine WL_nil (WQ_code (WC_seq (WC_region ?_)))
  refine WL_val rfl rfl rfl (R_fieldAddr rfl fa81_3 rfl) ?_
  refine WL_val rfl rfl rfl (R_load rfl sc34 rfl (mmY) rfl) ?_
  refine WLa rfl ?_
  refine WL_val rfl rfl rfl (R_indexAddrN rfl Tryz.underlying34 Tryz.sizeOf3 rfl rfl (by omega)) ?_
  refine WL_do0 rfl rfl (D_store (vs := [_]) rfl Tryz.sizeOf3 rfl rfl rfl rfl rfl (plY) (by exact fm_room0 encI1 (show j < z.R.length by omega) (j := 0) (by omega))) ?_
  rintro _ _ rfl
  have hput : putAt (ivs z.R ++ tR) (0 + j * 1) [.int .i64 0] = ivs (z.R.set j 0) ++ tR := fm_put0 encI1 0 hu9 (j := 0) (vs := [.int .i64 0]) (by simp) rfl (tl := tR)
  rw [hput, ← e]
  refine WL_nil (WQ_code (WC_seq (WC_region ?_)))
  refine WL_val rfl rfl rfl (R_loadA (vs := [_, _, _, _, _, _, _, _]) rfl ag81 rfl (mmY) rfl (atZ)) ?_
  refine WL_do0 rfl rfl (D_store (vs := [_, _, _, _, _, _, _, _]) rfl Tryz.sizeOf81 rfl rfl rfl rfl rfl (plY) (Nat.le_of_ble_eq_true rfl)) ?_
  rintro _ _ rfl
  refine WLa rfl (WL_nil (WQ_code (WC_ret ?_)))
  refine WQ_ret rfl rfl (.cons (.cell (vs := [_, _, _, _, _, _, _, _]) rfl ag81 (mmY) rfl (atZ)) (.cons (.tmp rfl) .nil)) rfl (by
    exact ⟨{ q with l := r2, orr := some rb, cr := cR, tr := tR }, rfl, rfl, ⟨hq.al, hq.wl, hq.wo, hq.rd, hq.od, hr2, own_sm w1 e⟩⟩) (pqY)
 ·have hst : z.start i = z := by unfold PoS.start; rw [if_neg h0]
  rw [hst]
  refine Spec.of (E := [(0, rpV z q), (1, .int .i64 i)]) Tryz.func70 rfl (by kernel_rfl) Tryz.ntmps70 rfl rfl (fun w => ?_)
  refine WC_seq (WC_region ?_)
  refine WL_do rfl rfl rfl (D_box (cs := [_, _, _, _, _, _, _, _]) rfl rfl rfl) ?_
  rintro _ _ ⟨b1, rfl, rfl⟩
  refine WL_do rfl rfl rfl (D_alloc rfl zv81) ?_
  rintro _ _ ⟨b2, rfl, rfl⟩
  refine WLa rfl (WL_nil (WQ_code (WC_seq (WC_region ?_))))
  refine WL_val rfl rfl rfl (R_fieldAddr rfl fa81_2 rfl) ?_
  refine WL_val rfl rfl rfl (R_loadA (vs := [_, _, _]) rfl ag79 rfl (mmY) rfl (atZ)) ?_
  refine WLa rfl ?_
  refine WL_do rfl rfl rfl (D_call (rf_start_bad z.s q.l hq.l hb.hs hb.room i h0) rfl rfl rfl rfl (pqY)) ?_
  rintro _ _ ⟨_, ⟨rfl, rfl⟩, rfl⟩
  refine WLa rfl (WLa rfl (WLa rfl ?_))
  refine WL_do rfl rfl rfl (D_alloc rfl zv79) ?_
  rintro _ _ ⟨b3, rfl, rfl⟩
  refine WL_do0 rfl rfl (D_store (vs := [_, _, _]) rfl Tryz.sizeOf79 rfl rfl rfl rfl rfl (plY) (Nat.le_of_ble_eq_true rfl)) ?_
  rintro _ _ rfl
  refine WLa rfl (WL_nil (WQ_code (WC_seq (WC_seq (WC_region (WLa rfl ?_))))))
  refine WL_val rfl rfl rfl (R_neq rfl rfl rfl) ?_
  refine WL_nil (WQ_code ?_)
  refine WC_dT rfl (by exact h0) ?_
  refine WC_seq (WC_region ?_)
  refine WL_val rfl rfl rfl (R_loadA (vs := [_, _, _, _, _, _, _, _]) rfl ag81 rfl (mmY) rfl (atZ)) ?_
  refine WLa rfl ?_
  refine WL_do0 rfl rfl (D_store (vs := [_, _, _, _, _, _, _, _]) rfl Tryz.sizeOf81 rfl rfl rfl rfl rfl (plY) (Nat.le_of_ble_eq_true rfl)) ?_
  rintro _ _ rfl
  refine WLa rfl (WL_nil (WQ_code (WC_ret ?_)))
  refine WQ_ret rfl rfl (.cons (.cell (vs := [_, _, _, _, _, _, _, _]) rfl ag81 (mmY) rfl (atZ)) (.cons (.tmp rfl) .nil)) rfl (by
    exact ⟨q, rfl, rfl, hq⟩) (pqY)
theorem rp_fin {K : Nat} {z : PoS} {q : RpM} (hb : PBase z) (hq : RpOk K z q) (i : Int) : Spec Tryz.prog 71 [rpV z q, .int .i64 i] (rpH z q) (fun v H' => ∃ q' : RpM, v = .tuple #[rpV (z.fin i) q', .int .i64 (stepR z.s.sm z.s.qm 1 0 i).1] ∧ H' = rpH (z.fin i) q' ∧ RpOk K (z.fin i) q') := by
 refine Spec.of (E := [(0, rpV z q), (1, .int .i64 i)]) Tryz.func71 rfl (by kernel_rfl) Tryz.ntmps71 rfl rfl (fun w => ?_)
 refine WC_seq (WC_region ?_)
 refine WL_do rfl rfl rfl (D_box (cs := [_, _, _, _, _, _, _, _]) rfl rfl rfl) ?_
 rintro _ _ ⟨b1, rfl, rfl⟩
 refine WL_do rfl rfl rfl (D_alloc rfl zv81) ?_
 rintro _ _ ⟨b2, rfl, rfl⟩
 refine WLa rfl (WL_nil (WQ_code (WC_seq (WC_region ?_))))
 refine WL_val rfl rfl rfl (R_fieldAddr rfl fa81_2 rfl) ?_
 refine WL_val rfl rfl rfl (R_loadA (vs := [_, _, _]) rfl ag79 rfl (mmY) rfl (atZ)) ?_
 refine WLa rfl ?_
 refine WL_do rfl rfl rfl (D_call (rf_finish z.s q.l hq.l hb.hs hb.room i) rfl rfl rfl rfl (pqY)) ?_
 rintro _ _ ⟨_, ⟨r2, rfl, rfl, hr2⟩, rfl⟩
 refine WLa rfl (WLa rfl (WLa rfl ?_))
 refine WL_do rfl rfl rfl (D_alloc rfl zv79) ?_
 rintro _ _ ⟨b3, rfl, rfl⟩
 refine WL_do0 rfl rfl (D_store (vs := [_, _, _]) rfl Tryz.sizeOf79 rfl rfl rfl rfl rfl (plY) (Nat.le_of_ble_eq_true rfl)) ?_
 rintro _ _ rfl
 refine WLa rfl (WL_nil (WQ_code (WC_seq (WC_region ?_))))
 refine WL_val rfl rfl rfl (R_loadA (vs := [_, _, _, _, _, _, _, _]) rfl ag81 rfl (mmY) rfl (atZ)) ?_
 refine WL_do rfl rfl rfl (D_call (rp_copy hb hq) rfl rfl rfl rfl (pqY)) ?_
 rintro _ _ ⟨_, ⟨o1, cR, tR, rfl, w1, rfl⟩, rfl⟩
 refine WL_do rfl rfl rfl (D_alloc rfl zv81) ?_
 rintro _ _ ⟨b4, rfl, rfl⟩
 refine WL_do0 rfl rfl (D_store (vs := [_, _, _, _, _, _, _, _]) rfl Tryz.sizeOf81 rfl rfl rfl rfl rfl (plY) (Nat.le_of_ble_eq_true rfl)) ?_
 rintro _ _ rfl
 refine WL_nil (WQ_code (WC_seq (WC_region ?_)))
 refine WL_val rfl rfl rfl (R_loadA (vs := [_, _, _]) rfl ag79 rfl (mmY) rfl (atZ)) ?_
 refine WL_val rfl rfl rfl (R_fieldAddr rfl fa81_2 rfl) ?_
 refine WL_do0 rfl rfl (D_store (vs := [_, _, _]) rfl Tryz.sizeOf79 rfl rfl rfl rfl rfl (plY) (Nat.le_of_ble_eq_true rfl)) ?_
 rintro _ _ rfl
 refine WL_nil (WQ_code (WC_seq (WC_region ?_)))
 refine WL_val rfl rfl rfl (R_loadA (vs := [_, _, _, _, _, _, _, _]) rfl ag81 rfl (mmY) rfl (atZ)) ?_
 refine WLa rfl ?_
 refine WL_do0 rfl rfl (D_store (vs := [_, _, _, _, _, _, _, _]) rfl Tryz.sizeOf81 rfl rfl rfl rfl rfl (plY) (Nat.le_of_ble_eq_true rfl)) ?_
 rintro _ _ rfl
 refine WLa rfl (WL_nil (WQ_code (WC_ret ?_)))
 refine WQ_ret rfl rfl (.cons (.cell (vs := [_, _, _, _, _, _, _, _]) rfl ag81 (mmY) rfl (atZ)) (.cons (.tmp rfl) .nil)) rfl (by
   exact ⟨{ q with l := r2, orr := o1, cr := cR, tr := tR }, rfl, rfl, ⟨hq.al, hq.wl, hq.wo, hq.rd, hq.od, hr2, w1⟩⟩) (pqY)
theorem rp_turn {K : Nat} {z : PoS} {q : RpM} (hb : PBase z) (hq : RpOk K z q) (i : Int) : Spec Tryz.prog 72 [rpV z q, .int .i64 i] (rpH z q) (fun v H' => ∃ q' : RpM, v = .tuple #[rpV (z.turn i) q', .int .i64 (stepR z.s.sm z.s.qm 1 1 i).1] ∧ H' = rpH (z.turn i) q' ∧ RpOk K (z.turn i) q') := by
 refine Spec.of (E := [(0, rpV z q), (1, .int .i64 i)]) Tryz.func72 rfl (by kernel_rfl) Tryz.ntmps72 rfl rfl (fun w => ?_)
 refine WC_seq (WC_region ?_)
 refine WL_do rfl rfl rfl (D_box (cs := [_, _, _, _, _, _, _, _]) rfl rfl rfl) ?_
 rintro _ _ ⟨b1, rfl, rfl⟩
 refine WL_do rfl rfl rfl (D_alloc rfl zv81) ?_
 rintro _ _ ⟨b2, rfl, rfl⟩
 refine WLa rfl (WL_nil (WQ_code (WC_seq (WC_region ?_))))
 refine WL_val rfl rfl rfl (R_fieldAddr rfl fa81_2 rfl) ?_
 refine WL_val rfl rfl rfl (R_loadA (vs := [_, _, _]) rfl ag79 rfl (mmY) rfl (atZ)) ?_
 refine WLa rfl ?_
 refine WL_do rfl rfl rfl (D_call (rf_turn z.s q.l hq.l hb.hs hb.room i) rfl rfl rfl rfl (pqY)) ?_
 rintro _ _ ⟨_, ⟨r2, rfl, rfl, hr2⟩, rfl⟩
 refine WLa rfl (WLa rfl (WLa rfl ?_))
 refine WL_do rfl rfl rfl (D_alloc rfl zv79) ?_
 rintro _ _ ⟨b3, rfl, rfl⟩
 refine WL_do0 rfl rfl (D_store (vs := [_, _, _]) rfl Tryz.sizeOf79 rfl rfl rfl rfl rfl (plY) (Nat.le_of_ble_eq_true rfl)) ?_
 rintro _ _ rfl
 refine WLa rfl (WL_nil (WQ_code (WC_seq (WC_region ?_))))
 refine WL_val rfl rfl rfl (R_loadA (vs := [_, _, _, _, _, _, _, _]) rfl ag81 rfl (mmY) rfl (atZ)) ?_
 refine WL_do rfl rfl rfl (D_call (rp_copy hb hq) rfl rfl rfl rfl (pqY)) ?_
 rintro _ _ ⟨_, ⟨o1, cR, tR, rfl, w1, rfl⟩, rfl⟩
 refine WL_do rfl rfl rfl (D_alloc rfl zv81) ?_
 rintro _ _ ⟨b4, rfl, rfl⟩
 refine WL_do0 rfl rfl (D_store (vs := [_, _, _, _, _, _, _, _]) rfl Tryz.sizeOf81 rfl rfl rfl rfl rfl (plY) (Nat.le_of_ble_eq_true rfl)) ?_
 rintro _ _ rfl
 refine WL_nil (WQ_code (WC_seq (WC_region ?_)))
 refine WL_val rfl rfl rfl (R_loadA (vs := [_, _, _]) rfl ag79 rfl (mmY) rfl (atZ)) ?_
 refine WL_val rfl rfl rfl (R_fieldAddr rfl fa81_2 rfl) ?_
 refine WL_do0 rfl rfl (D_store (vs := [_, _, _]) rfl Tryz.sizeOf79 rfl rfl rfl rfl rfl (plY) (Nat.le_of_ble_eq_true rfl)) ?_
 rintro _ _ rfl
 refine WL_nil (WQ_code (WC_seq (WC_region ?_)))
 refine WL_val rfl rfl rfl (R_loadA (vs := [_, _, _, _, _, _, _, _]) rfl ag81 rfl (mmY) rfl (atZ)) ?_
 refine WLa rfl ?_
 refine WL_do0 rfl rfl (D_store (vs := [_, _, _, _, _, _, _, _]) rfl Tryz.sizeOf81 rfl rfl rfl rfl rfl (plY) (Nat.le_of_ble_eq_true rfl)) ?_
 rintro _ _ rfl
 refine WLa rfl (WL_nil (WQ_code (WC_ret ?_)))
 refine WQ_ret rfl rfl (.cons (.cell (vs := [_, _, _, _, _, _, _, _]) rfl ag81 (mmY) rfl (atZ)) (.cons (.tmp rfl) .nil)) rfl (by
   exact ⟨{ q with l := r2, orr := o1, cr := cR, tr := tR }, rfl, rfl, ⟨hq.al, hq.wl, hq.wo, hq.rd, hq.od, hr2, w1⟩⟩) (pqY)
theorem rp_rsn {K : Nat} {z : PoS} {q : RpM} (hb : PBase z) (hq : RpOk K z q) (i : Int) : Spec Tryz.prog 75 [rpV z q, .int .i64 i] ([⟨q.l.os, cl (ivs z.s.sm ++ q.l.ts) 3⟩, ⟨q.l.oq, cl (ivs z.s.qm ++ q.l.tq) 3⟩] ++ [⟨q.orr, cl (ivs z.R ++ q.tr) 3⟩]) (fun v H' => v = .tuple #[.int .i64 (z.rsn i).1, .int .i64 (z.rsn i).2] ∧ H' = [⟨q.l.os, cl (ivs z.s.sm ++ q.l.ts) 3⟩, ⟨q.l.oq, cl (ivs z.s.qm ++ q.l.tq) 3⟩] ++ [⟨q.orr, cl (ivs z.R ++ q.tr) 3⟩]) := by
 have hrl := hb.rl
 refine Spec.of (E := [(0, rpV z q), (1, .int .i64 i)]) Tryz.func75 rfl (by kernel_rfl) Tryz.ntmps75 rfl rfl (fun w => ?_)
 refine WC_seq (WC_region ?_)
 refine WL_do rfl rfl rfl (D_box (cs := [_, _, _, _, _, _, _, _]) rfl rfl rfl) ?_
 rintro _ _ ⟨b1, rfl, rfl⟩
 refine WLa rfl (WLa rfl (WL_nil (WQ_code (WC_seq (WC_region ?_)))))
 refine WL_val rfl rfl rfl (R_fieldAddr rfl fa81_2 rfl) ?_
 refine WL_val rfl rfl rfl (R_fieldAddr rfl fa79_0 rfl) ?_
 refine WL_val rfl rfl rfl (R_loadA (vs := [_, _]) rfl ag76 rfl (mmY) rfl (atZ)) ?_
 refine WLa rfl ?_
 refine WL_do rfl rfl rfl (D_call (rstate_ok z.s.sm z.s.qm q.l.os q.l.sc q.l.ts q.l.oq q.l.qc q.l.tq hq.l.os hq.l.oq i) rfl rfl rfl rfl (pqY)) ?_
 rintro _ _ ⟨_, ⟨rfl, rfl⟩, rfl⟩
 refine WLa rfl (WLa rfl (WLa rfl (WLa rfl (WLa rfl (WL_nil (WQ_code (WC_seq (WC_seq (WC_region (WLa rfl ?_))))))))))
 refine WL_val rfl rfl rfl (R_neq rfl rfl rfl) ?_
 refine WL_nil (WQ_code ?_)
 refine WC_dec rfl (fun c1 => ?_) (fun c1 => ?_)
 ·have e9 : z.rsn i = (0, (stR z.s.sm i).2) := by unfold PoS.rsn; rw [if_pos c1]
  refine WC_seq (WC_region (WLa rfl (WLa rfl (WLa rfl (WL_nil (WQ_code (WC_ret ?_)))))))
  refine WQ_ret rfl rfl (.cons (.tmp rfl) (.cons (.tmp rfl) .nil)) rfl (by
    exact ⟨by rw [e9]; rfl, rfl⟩) (pqY)
 ·have h0 : (stR z.s.sm i).2 = 0 := Decidable.not_not.1 c1
  obtain ⟨j, x9, rfl, hx9, _⟩ := stR_some h0
  have hjl := (List.getElem?_eq_some_iff.1 hx9).1
  obtain ⟨u9, hu9⟩ := exE (T := z.R) (i := j) (by omega)
  obtain ⟨rb, hrb⟩ := hq.ro.some_of (by omega)
  rw [hrb]
  refine WC_skip (WQ_code (WC_seq (WC_seq (WC_region (WLa rfl ?_)))))
  refine WL_val rfl rfl rfl (R_neq rfl rfl rfl) ?_
  refine WL_nil (WQ_code ?_)
  refine WC_dec rfl (fun c2 => ?_) (fun c2 => ?_)
  ·have e9 : z.rsn (j : Int) = (0, 8) := by unfold PoS.rsn; rw [if_neg (fun q => q h0), if_pos c2]
   refine WC_seq (WC_region (WLa rfl (WLa rfl (WL_nil (WQ_code (WC_ret ?_))))))
   refine WQ_ret rfl rfl (.cons (.tmp rfl) (.cons (.tmp rfl) .nil)) rfl (by
     exact ⟨by rw [e9]; rfl, rfl⟩) (pqY)
  ·have e9 : z.rsn (j : Int) = (u9, 0) := by unfold PoS.rsn; rw [if_neg (fun q => q h0), if_neg c2, Int.toNat_natCast, List.getD_eq_getElem?_getD, hu9]; rfl
   refine WC_skip (WQ_code (WC_seq (WC_region ?_)))
   refine WL_val rfl rfl rfl (R_fieldAddr rfl fa81_3 rfl) ?_
   refine WL_val rfl rfl rfl (R_load rfl sc34 rfl (mmY) rfl) ?_
   refine WLa rfl ?_
   refine WL_val rfl rfl rfl (R_indexAddrN rfl Tryz.underlying34 Tryz.sizeOf3 rfl rfl (by omega)) ?_
   refine WL_val rfl rfl rfl (R_load (v := .int .i64 u9) rfl sc3 rfl (mmY) (fm_get0 encI1 hu9 (j := 0) (by omega))) ?_
   refine WLa rfl (WLa rfl (WL_nil (WQ_code (WC_ret ?_))))
   refine WQ_ret rfl rfl (.cons (.tmp rfl) (.cons (.tmp rfl) .nil)) rfl (by
     exact ⟨by rw [e9]; rfl, rfl⟩) (pqY)
end Go.Proofs.YtbkdebnkoidicaaGreat
end
