/-
  Chapter 09 (park), part RefD: contracts of functions that the laws call, each for the heap it names.
-/
import Derived.Test.YtljmeemgjbcgeaaRows
import Derived.Test.YtljmeemgjbcgeaaZSLQueue
import Derived.Test.YtljmeemgjbcgeaaTab
import Derived.Test.YtljmeemgjbcgeaaRefC
set_option linter.unusedVariables false
set_option maxRecDepth 20000
set_option maxHeartbeats 2000000
namespace Go.Proofs.Ytljmeemgjbcgeaa


theorem waiting_in {s : PS} {a : Sp} {v : Int} {k : Nat} (h : (s.waiting a)[k]? = some v) : vldS a ∧ s.waiting a = wAt s.W a := by
  have hv : vldS a := by
    by_cases h9 : vldS a
    · exact h9
    · unfold PS.waiting at h
      rw [if_neg h9] at h; cases h
  exact ⟨hv, by unfold PS.waiting; rw [if_pos hv]⟩
theorem wakes_z {s : PS} (h : PsOk s) {a : Sp} {v : Int} {k : Nat} (hx : (s.waiting a)[k]? = some v) : PsOk (((s.waiting a).take k).foldl PS.out s) ∧ (((s.waiting a).take k).foldl PS.out s).sm.length = s.sm.length ∧ ∃ z ∈ (((s.waiting a).take k).foldl PS.out s).W, z.at_ = a ∧ (z.i : Int) = v := by
  obtain ⟨hv, hwt⟩ := waiting_in hx
  rw [hwt] at hx ⊢
  have hk := (List.getElem?_eq_some_iff.1 hx).1
  obtain ⟨h1, h2, h3⟩ := wakes_ok h a k (by omega)
  exact ⟨h1, h3, wAt_mem.1 (by rw [h2]; exact List.mem_of_getElem? (i := 0) (by rw [List.getElem?_drop]; exact hx))⟩
theorem wakes_room {s : PS} (h : PsOk s) (a : Sp) (hroom : s.qm.length + s.W.length ≤ 64) : ∀ k, k ≤ (s.waiting a).length → (((s.waiting a).take k).foldl PS.out s).qm.length + (((s.waiting a).take k).foldl PS.out s).W.length ≤ 64 := by
  intro k
  induction k with
  | zero => intro _; rw [List.take_zero, List.foldl_nil]; exact hroom
  | succ k ih =>
    intro hk
    obtain ⟨v, hx⟩ := exE (T := s.waiting a) (i := k) (by omega)
    obtain ⟨h1, _, z, hz, _, rfl⟩ := wakes_z h hx
    rw [take_get hx, List.foldl_append]
    exact Nat.le_trans (out_room h1 hz) (ih (by omega))
theorem leave_z {s : PS} (h : PsOk s) {z : Wt} (hz : z ∈ s.W) : s.leave z.i = s.out z.i := leave_yes s (by rw [h.whr_yes hz])
theorem rf_wakeall (s : PS) (r : RfM) (hr : RfOk s r) (hs : s.sm.length ≤ 64) (hroom : s.qm.length + s.W.length ≤ 64) (hp : PsOk s) (a : Sp) : Spec Try.prog 49 [rfV s r, ekS a] (rfH s r) (fun v H' => ∃ (r' : RfM) (ob : Option Nat) (c' : Nat) (tl' : List Value), v = .tuple #[rfV (s.wakeAll a) r', slV ob (s.waiting a).length c', .int .i64 (spE a)] ∧ Own ob (s.waiting a).length c' 1 (ivs (s.waiting a)) tl' ∧ H' = ⟨ob, cl (ivs (s.waiting a) ++ tl') 3⟩ :: rfH (s.wakeAll a) r' ∧ RfOk (s.wakeAll a) r') := by
  have hwl := waiting_len hp a
  refine Spec.of (E := [(0, rfV s r), (1, ekS a)]) Try.func49 rfl (by kernel_rfl) Try.ntmps49 rfl rfl (fun w => ?_)
  refine WC_seq ?_
  refine WC_region ?_
  refine WL_do rfl rfl rfl (D_box (cs := [_, _, _]) rfl rfl rfl) ?_
  rintro _ _ ⟨b1, rfl, rfl⟩
  refine WL_do rfl rfl rfl (D_box (cs := [_, _]) rfl rfl rfl) ?_
  rintro _ _ ⟨b2, rfl, rfl⟩
  refine WL_do rfl rfl rfl (D_alloc rfl zv57) ?_
  rintro _ _ ⟨b3, rfl, rfl⟩
  refine WL_val rfl rfl rfl (R_assign rfl rfl) ?_
  refine WL_val rfl rfl rfl (R_assign rfl rfl) ?_
  refine WL_nil ?_
  refine WQ_code ?_
  refine WC_seq ?_
  refine WC_region ?_
  refine WL_val rfl rfl rfl (R_loadA (vs := [_, _, _]) rfl ag57 rfl (mmY) rfl (atZ)) ?_
  refine WL_val rfl rfl rfl (R_loadA (vs := [_, _]) rfl ag25 rfl (mmY) rfl (atZ)) ?_
  refine WL_do rfl rfl rfl (D_call (rf_waiting s r hr hs hroom a) rfl rfl rfl rfl (pqY)) ?_
  rintro _ _ ⟨_, ⟨ob, c', tl', rfl, own', rfl⟩, rfl⟩
  refine WL_val rfl rfl rfl (R_move rfl rfl) ?_
  refine WL_val rfl rfl rfl (R_extract rfl rfl rfl) ?_
  refine WL_val rfl rfl rfl (R_extract rfl rfl rfl) ?_
  refine WL_val rfl rfl rfl (R_assign rfl rfl) ?_
  refine WL_val rfl rfl rfl (R_assign rfl rfl) ?_
  refine WL_nil ?_
  refine WQ_code ?_
  refine WC_seq ?_
  refine WC_region ?_
  refine WL_val rfl rfl rfl (R_loadA (vs := [_, _, _]) rfl ag57 rfl (mmY) rfl (atZ)) ?_
  refine WL_do rfl rfl rfl (D_alloc rfl zv57) ?_
  rintro _ _ ⟨b4, rfl, rfl⟩
  refine WL_do0 rfl rfl (D_store (vs := [_, _, _]) rfl Try.sizeOf57 rfl rfl rfl rfl rfl (plY) (by exact Nat.le_of_ble_eq_true rfl)) ?_
  rintro _ _ rfl
  refine WL_nil ?_
  refine WQ_code ?_
  refine WC_seq ?_
  refine WC_seq ?_
  refine WC_region ?_
  refine WL_val rfl rfl rfl (R_assign rfl rfl) ?_
  refine WL_nil ?_
  refine WQ_code ?_
  refine WC_block ?_
  refine WC_loopF (G := RaW) [10, 18, 19, 20, 21, 22, 23, 24, 25, 26, 27, 28, 29, 30, 31, 32, 33] (fun y => y.k ≤ (s.waiting a).length ∧ RfOk (((s.waiting a).take y.k).foldl PS.out s) y.r) (fun y => [(10, .int .i64 (y.k : Int))]) (fun y => ⟨some b4, cl [slV y.r.os (((s.waiting a).take y.k).foldl PS.out s).sm.length y.r.sc, slV y.r.oq (((s.waiting a).take y.k).foldl PS.out s).qm.length y.r.qc, slV y.r.ow (((s.waiting a).take y.k).foldl PS.out s).W.length y.r.wc] 57⟩ :: rfH (((s.waiting a).take y.k).foldl PS.out s) y.r) (fun y => (s.waiting a).length - y.k) (⟨0, r⟩) (⟨Nat.zero_le _, hr⟩) leZ (pqY) ?_
  rintro y ⟨hyk, hy⟩
  refine WC_seq ?_
  refine WC_seq ?_
  refine WC_region ?_
  refine WL_val rfl rfl rfl (R_move rfl rfl) ?_
  refine WL_val rfl rfl rfl (R_move rfl rfl) ?_
  refine WL_val rfl rfl rfl (R_len rfl Try.underlying32 rfl) ?_
  refine WL_val rfl rfl rfl (R_lss rfl rfl rfl) ?_
  refine WL_nil ?_
  refine WQ_code ?_
  refine WC_dec rfl (fun c1 => ?_) (fun c1 => ?_)
  · refine WC_skip ?_
    refine WQ_code ?_
    refine WC_seq ?_
    refine WC_block ?_
    refine WC_drawR (⟨some b4, _⟩ :: rfH (((s.waiting a).take y.k).foldl PS.out s) y.r) [(1, true), (2, true), (3, true), (4, true), (0, false), (5, false), (6, true), (7, true), (8, true), (9, true), (10, false)] followsMixed rfl rfl (by kernel_rfl) (pqY) ?_
    obtain ⟨v, hx⟩ := exE (T := s.waiting a) (i := y.k) (by omega)
    obtain ⟨wb, hwb⟩ := own'.some_of (by omega)
    obtain ⟨hpk, hsl, z, hz, hza, rfl⟩ := wakes_z hp hx
    have hroom2 := wakes_room hp a hroom
    have hlv := leave_z hpk hz
    refine WM_val rfl rfl rfl rfl (R_move rfl rfl) ?_
    refine WM_val rfl rfl rfl rfl (R_move rfl rfl) ?_
    refine WM_val rfl rfl rfl rfl (R_idxO hwb rfl Try.underlying32 Try.sizeOf3 rfl rfl (by omega)) ?_
    refine WM_val rfl rfl rfl rfl (R_loadO (v := .int .i64 (z.i : Int)) hwb rfl sc3 rfl (mmY) (fm_get0 encI1 hx (j := 0) (by omega))) ?_
    refine WM_do rfl rfl rfl rfl (Runs.does (R_loadA (vs := [_, _, _]) rfl ag57 rfl (mmY) rfl (atZ))) ?_
    rintro _ _ ⟨rfl, rfl⟩
    refine ⟨⟨_, pqY⟩, ?_⟩
    refine WM_do rfl rfl rfl rfl (D_call (rf_leave (((s.waiting a).take y.k).foldl PS.out s) y.r hy (by omega) (hroom2 y.k (by omega)) hpk (z.i : Int)) rfl rfl rfl rfl (pqY)) ?_
    rintro _ _ ⟨_, ⟨r', rfl, rfl, hr'⟩, rfl⟩
    refine ⟨⟨_, pqY⟩, ?_⟩
    rw [hlv] at hr'
    rw [hlv]
    refine WM_val rfl rfl rfl rfl (R_move rfl rfl) ?_
    refine WM_val rfl rfl rfl rfl (R_extract rfl rfl rfl) ?_
    refine WM_val rfl rfl rfl rfl (R_extract rfl rfl rfl) ?_
    refine WM_val rfl rfl rfl rfl (R_extract rfl rfl rfl) ?_
    refine WM_do0 rfl rfl rfl (D_store (vs := [_, _, _]) rfl Try.sizeOf57 rfl rfl rfl rfl rfl (plY) (by exact Nat.le_of_ble_eq_true rfl)) ?_
    rintro _ _ rfl
    refine ⟨⟨_, pqY⟩, ?_⟩
    refine WM_nil ?_
    refine WQ_code ?_
    refine WC_region ?_
    refine WL_val rfl rfl rfl (R_move rfl rfl) ?_
    refine WL_val rfl rfl rfl (R_add rfl rfl rfl (by omega)) ?_
    refine WL_val rfl rfl rfl (R_assign rfl rfl) ?_
    refine WL_nil ?_
    have hfs : (((s.waiting a).take (y.k + 1)).foldl PS.out s) = PS.out (((s.waiting a).take y.k).foldl PS.out s) (z.i : Int) := by rw [take_get hx, List.foldl_append]; rfl
    rw [← hfs] at hr' ⊢
    refine WQ_nextF (⟨y.k + 1, r'⟩) (⟨by dsimp only; omega, hr'⟩) (by dsimp only; omega) leZ (psZ) rfl (pqY)
  · have hyl : y.k = (s.waiting a).length := by omega
    have hfin : (((s.waiting a).take y.k).foldl PS.out s) = s.wakeAll a := by rw [hyl, List.take_length]; rfl
    rw [hfin] at hy
    rw [hfin]
    refine WC_exit ?_
    refine WQ_code ?_
    refine WC_seq ?_
    refine WC_region ?_
    refine WL_val rfl rfl rfl (R_loadA (vs := [_, _, _]) rfl ag57 rfl (mmY) rfl (atZ)) ?_
    refine WL_val rfl rfl rfl (R_move rfl rfl) ?_
    refine WL_val rfl rfl rfl (R_move rfl rfl) ?_
    refine WL_do0 rfl rfl (D_store (vs := [_, _, _]) rfl Try.sizeOf57 rfl rfl rfl rfl rfl (plY) (by exact Nat.le_of_ble_eq_true rfl)) ?_
    rintro _ _ rfl
    refine WL_val rfl rfl rfl (R_assign rfl rfl) ?_
    refine WL_val rfl rfl rfl (R_assign rfl rfl) ?_
    refine WL_nil ?_
    refine WQ_code ?_
    refine WC_ret ?_
    refine WQ_ret rfl rfl (.cons (.cell (vs := [_, _, _]) rfl ag57 (mmY) rfl (atZ)) (.cons (.tmp rfl) (.cons (.tmp rfl) .nil))) rfl (by
        exact ⟨y.r, ob, c', tl', rfl, own', rfl, hy⟩) (pqY)
theorem rf_wake (s : PS) (r : RfM) (hr : RfOk s r) (hs : s.sm.length ≤ 64) (hroom : s.qm.length + s.W.length ≤ 64) (hp : PsOk s) (a : Sp) : Spec Try.prog 48 [rfV s r, ekS a] (rfH s r) (fun v H' => ∃ r' : RfM, v = .tuple #[rfV (s.wake a) r', .int .i64 (s.wakeR a).1, .int .i64 (s.wakeR a).2] ∧ H' = rfH (s.wake a) r' ∧ RfOk (s.wake a) r') := by
  refine Spec.of (E := [(0, rfV s r), (1, ekS a)]) Try.func48 rfl (by kernel_rfl) Try.ntmps48 rfl rfl (fun w => ?_)
  refine WC_seq ?_
  refine WC_region ?_
  refine WL_do rfl rfl rfl (D_box (cs := [_, _, _]) rfl rfl rfl) ?_
  rintro _ _ ⟨b1, rfl, rfl⟩
  refine WL_do rfl rfl rfl (D_box (cs := [_, _]) rfl rfl rfl) ?_
  rintro _ _ ⟨b2, rfl, rfl⟩
  refine WL_do rfl rfl rfl (D_alloc rfl zv57) ?_
  rintro _ _ ⟨b3, rfl, rfl⟩
  refine WL_val rfl rfl rfl (R_assign rfl rfl) ?_
  refine WL_val rfl rfl rfl (R_assign rfl rfl) ?_
  refine WL_nil ?_
  refine WQ_code ?_
  refine WC_seq ?_
  refine WC_region ?_
  refine WL_val rfl rfl rfl (R_loadA (vs := [_, _, _]) rfl ag57 rfl (mmY) rfl (atZ)) ?_
  refine WL_val rfl rfl rfl (R_loadA (vs := [_, _]) rfl ag25 rfl (mmY) rfl (atZ)) ?_
  refine WL_do rfl rfl rfl (D_call (rf_waiting s r hr hs hroom a) rfl rfl rfl rfl (pqY)) ?_
  rintro _ _ ⟨_, ⟨ob, c', tl', rfl, own', rfl⟩, rfl⟩
  refine WL_val rfl rfl rfl (R_move rfl rfl) ?_
  refine WL_val rfl rfl rfl (R_extract rfl rfl rfl) ?_
  refine WL_val rfl rfl rfl (R_extract rfl rfl rfl) ?_
  refine WL_val rfl rfl rfl (R_assign rfl rfl) ?_
  refine WL_val rfl rfl rfl (R_assign rfl rfl) ?_
  refine WL_nil ?_
  refine WQ_code ?_
  refine WC_seq ?_
  refine WC_seq ?_
  refine WC_region ?_
  refine WL_val rfl rfl rfl (R_move rfl rfl) ?_
  refine WL_val rfl rfl rfl (R_neq rfl rfl rfl) ?_
  refine WL_nil ?_
  refine WQ_code ?_
  refine WC_dec rfl (fun c1 => ?_) (fun c1 => ?_)
  · have hv : ¬ vldS a := fun h9 => by unfold spE at c1; rw [if_pos h9] at c1; exact c1 rfl
    have e9 := wakeR_bad s hv
    have hsp : spE a = 2 := if_neg hv
    have ew : s.wake a = s := by unfold PS.wake; rw [e9, if_neg (by decide)]
    refine WC_seq ?_
    refine WC_region ?_
    refine WL_val rfl rfl rfl (R_loadA (vs := [_, _, _]) rfl ag57 rfl (mmY) rfl (atZ)) ?_
    refine WL_val rfl rfl rfl (R_move rfl rfl) ?_
    refine WL_do0 rfl rfl (D_store (vs := [_, _, _]) rfl Try.sizeOf57 rfl rfl rfl rfl rfl (plY) (by exact Nat.le_of_ble_eq_true rfl)) ?_
    rintro _ _ rfl
    refine WL_val rfl rfl rfl (R_assign rfl rfl) ?_
    refine WL_val rfl rfl rfl (R_assign rfl rfl) ?_
    refine WL_nil ?_
    refine WQ_code ?_
    refine WC_ret ?_
    refine WQ_ret rfl rfl (.cons (.cell (vs := [_, _, _]) rfl ag57 (mmY) rfl (atZ)) (.cons (.tmp rfl) (.cons (.tmp rfl) .nil))) rfl (by
        rw [ew, e9, hsp]
        exact ⟨r, rfl, rfl, hr⟩) (pqY)
  · have hv : vldS a := by by_cases h9 : vldS a; exact h9; (unfold spE at c1; rw [if_neg h9] at c1; exact absurd (by decide) c1)
    have hwt : s.waiting a = wAt s.W a := by unfold PS.waiting; rw [if_pos hv]
    refine WC_skip ?_
    refine WQ_code ?_
    refine WC_seq ?_
    refine WC_seq ?_
    refine WC_region ?_
    refine WL_val rfl rfl rfl (R_move rfl rfl) ?_
    refine WL_val rfl rfl rfl (R_len rfl Try.underlying32 rfl) ?_
    refine WL_val rfl rfl rfl (R_eql rfl rfl rfl) ?_
    refine WL_nil ?_
    refine WQ_code ?_
    refine WC_dec rfl (fun c2 => ?_) (fun c2 => ?_)
    · have e9 := wakeR_none s hv (by rw [← hwt]; exact List.eq_nil_of_length_eq_zero (by omega))
      have hsp : (0 : Int) = 0 := rfl
      have ew : s.wake a = s := by unfold PS.wake; rw [e9, if_neg (by decide)]
      refine WC_seq ?_
      refine WC_region ?_
      refine WL_val rfl rfl rfl (R_loadA (vs := [_, _, _]) rfl ag57 rfl (mmY) rfl (atZ)) ?_
      refine WL_do0 rfl rfl (D_store (vs := [_, _, _]) rfl Try.sizeOf57 rfl rfl rfl rfl rfl (plY) (by exact Nat.le_of_ble_eq_true rfl)) ?_
      rintro _ _ rfl
      refine WL_val rfl rfl rfl (R_assign rfl rfl) ?_
      refine WL_val rfl rfl rfl (R_assign rfl rfl) ?_
      refine WL_nil ?_
      refine WQ_code ?_
      refine WC_ret ?_
      refine WQ_ret rfl rfl (.cons (.cell (vs := [_, _, _]) rfl ag57 (mmY) rfl (atZ)) (.cons (.tmp rfl) (.cons (.tmp rfl) .nil))) rfl (by
          rw [ew, e9]
          exact ⟨r, rfl, rfl, hr⟩) (pqY)
    · obtain ⟨v, hx⟩ := exE (T := s.waiting a) (i := 0) (by omega)
      have e9 := wakeR_some s hv (hwt ▸ hx)
      obtain ⟨z, hz, hza, rfl⟩ := wAt_mem.1 (show v ∈ wAt s.W a by rw [← hwt]; exact List.mem_of_getElem? hx)
      obtain ⟨wb, hwb⟩ := own'.some_of (by omega)
      have hlv := leave_z hp hz
      have ew : s.wake a = s.out (z.i : Int) := by unfold PS.wake; rw [e9, if_pos rfl]
      refine WC_skip ?_
      refine WQ_code ?_
      refine WC_seq ?_
      refine WC_drawBR (rfH s r) [(0, .q), (1, .q), (2, .q), (3, .q), (4, .n [9, 10]), (5, .q), (6, .q), (7, .q), (8, .q), (9, .b [10]), (10, .b []), (11, .n []), (12, .n []), (13, .q)] followsMixed rfl rfl (by kernel_rfl) (pqY) ?_
      refine WB_val rfl rfl rfl rfl (R_loadA (vs := [_, _, _]) rfl ag57 rfl (mmY) rfl (atZ)) ?_
      refine WB_val rfl rfl rfl rfl (R_move rfl rfl) ?_
      refine WB_val rfl rfl rfl rfl (R_idxO hwb rfl Try.underlying32 Try.sizeOf3 rfl rfl (by simp; omega)) ?_
      refine WB_val rfl rfl rfl rfl (R_loadO (v := .int .i64 (z.i : Int)) hwb rfl sc3 rfl (mmY) (fm_get0 encI1 hx (j := 0) (by omega))) ?_
      refine WB_do rfl rfl rfl rfl (.cons rfl rfl (B_alloc rfl zv57) (.cons rfl rfl (B_alloc rfl zv25) .nil)) (fun _ => D_call (rf_leave s r hr hs hroom hp (z.i : Int)) rfl rfl rfl rfl (pqY)) ?_
      rintro _ _ ⟨_, ⟨r', rfl, rfl, hr'⟩, rfl⟩
      refine ⟨⟨_, pqY⟩, ?_⟩
      rw [hlv] at hr'
      rw [hlv]
      refine WB_val rfl rfl rfl rfl (R_move rfl rfl) ?_
      refine WB_val rfl rfl rfl rfl (R_extract rfl rfl rfl) ?_
      refine WB_val rfl rfl rfl rfl (R_extract rfl rfl rfl) ?_
      refine WB_val rfl rfl rfl rfl (R_extract rfl rfl rfl) ?_
      refine WB_birth rfl rfl rfl rfl (.cons rfl rfl (B_alloc rfl zv25) .nil) (B_alloc rfl zv57) (fun b4 => ?_)
      refine WB_birth rfl rfl rfl rfl .nil (B_alloc rfl zv25) (fun b5 => ?_)
      refine WB_do0 rfl rfl rfl .nil (fun _ => D_store (vs := [_, _, _]) rfl Try.sizeOf57 rfl rfl rfl rfl rfl (plY) (by exact Nat.le_of_ble_eq_true rfl)) ?_
      rintro _ _ rfl
      refine ⟨⟨_, pqY⟩, ?_⟩
      refine WB_do0 rfl rfl rfl .nil (fun _ => D_store (vs := [_, _]) rfl Try.sizeOf25 rfl rfl rfl rfl rfl (plY) (by exact Nat.le_of_ble_eq_true rfl)) ?_
      rintro _ _ rfl
      refine ⟨⟨_, pqY⟩, ?_⟩
      refine WB_val rfl rfl rfl rfl (R_assign rfl rfl) ?_
      refine WB_nil ?_
      refine WQ_code ?_
      refine WC_seq ?_
      refine WC_drawR [⟨some b3, _⟩] [(0, true), (1, true), (2, true), (3, true), (4, false), (5, true), (6, true)] followsMixed rfl rfl (by kernel_rfl) (pqY) ?_
      refine WM_val rfl rfl rfl rfl (R_loadA (vs := [_, _, _]) rfl ag57 rfl (mmY) rfl (atZ)) ?_
      refine WM_val rfl rfl rfl rfl (R_move rfl rfl) ?_
      refine WM_val rfl rfl rfl rfl (R_idxO hwb rfl Try.underlying32 Try.sizeOf3 rfl rfl (by simp; omega)) ?_
      refine WM_val rfl rfl rfl rfl (R_loadO (v := .int .i64 (z.i : Int)) hwb rfl sc3 rfl (mmY) (fm_get0 encI1 hx (j := 0) (by omega))) ?_
      refine WM_do0 rfl rfl rfl (D_store (vs := [_, _, _]) rfl Try.sizeOf57 rfl rfl rfl rfl rfl (plY) (by exact Nat.le_of_ble_eq_true rfl)) ?_
      rintro _ _ rfl
      refine ⟨⟨_, pqY⟩, ?_⟩
      refine WM_val rfl rfl rfl rfl (R_assign rfl rfl) ?_
      refine WM_val rfl rfl rfl rfl (R_assign rfl rfl) ?_
      refine WM_nil ?_
      refine WQ_code ?_
      refine WC_ret ?_
      refine WQ_ret rfl rfl (.cons (.cell (vs := [_, _, _]) rfl ag57 (mmY) rfl (atZ)) (.cons (.tmp rfl) (.cons (.tmp rfl) .nil))) rfl (by
          rw [ew, e9]
          exact ⟨r', rfl, rfl, hr'⟩) (pqY)

end Go.Proofs.Ytljmeemgjbcgeaa
