/-
  Chapter 09 (park), part ParkK: contracts of functions that the laws call, each for the heap it names.
-/
import Derived.Test.YtljmeemgjbcgeaaRows
import Derived.Test.YtljmeemgjbcgeaaZSLQueue
import Derived.Test.YtljmeemgjbcgeaaTab
import Derived.Test.YtljmeemgjbcgeaaParkP
set_option linter.unusedVariables false
set_option maxRecDepth 20000
set_option maxHeartbeats 2000000
namespace Go.Proofs.Ytljmeemgjbcgeaa


theorem wakeR_bad (s : PS) {a : Sp} (h : ¬ vldS a) : s.wakeR a = (0, 2) := by unfold PS.wakeR; rw [if_neg h]
theorem wakeR_none (s : PS) {a : Sp} (h : vldS a) (e : wAt s.W a = []) : s.wakeR a = (0, 9) := by unfold PS.wakeR; rw [if_pos h, e]
theorem wakeR_some (s : PS) {a : Sp} (h : vldS a) {v : Int} (e : (wAt s.W a)[0]? = some v) : s.wakeR a = (v, 0) := by
  unfold PS.wakeR
  rw [if_pos h]
  cases hl : wAt s.W a with
  | nil => rw [hl] at e; cases e
  | cons x r => rw [hl] at e; simp at e; rw [e]
theorem pk_wake (N : Nat) (s : PS) (l : PkM) (hl : PkIs N s l) (hN : N < 900000) (a : Sp) : Spec Try.prog 18 [ptrQ l.p, ekS a] (pkH l) (fun r H' => ∃ l' : PkM, r = .tuple #[.int .i64 (s.wakeR a).1, .int .i64 (s.wakeR a).2] ∧ H' = pkH l' ∧ l'.p = l.p ∧ PkIs (N + 1) (s.wake a) l') := by
  refine Spec.of (E := [(0, ptrQ l.p), (1, ekS a)]) Try.func18 rfl (by kernel_rfl) Try.ntmps18 rfl rfl (fun w => ?_)
  refine WC_seq ?_
  refine WC_region ?_
  refine WL_do rfl rfl rfl (D_box (cs := [_, _]) rfl rfl rfl) ?_
  rintro _ _ ⟨b1, rfl, rfl⟩
  refine WL_val rfl rfl rfl (R_assign rfl rfl) ?_
  refine WL_val rfl rfl rfl (R_assign rfl rfl) ?_
  refine WL_nil ?_
  refine WQ_code ?_
  refine WC_seq ?_
  refine WC_region ?_
  refine WL_val rfl rfl rfl (R_move rfl rfl) ?_
  refine WL_val rfl rfl rfl (R_loadA (vs := [_, _]) rfl ag25 rfl (mmY) rfl (atZ)) ?_
  refine WL_do rfl rfl rfl (D_call (pk_waiting N s l hl a) rfl rfl rfl rfl (pqY)) ?_
  rintro _ _ ⟨_, ⟨ob, c', tl', rfl, own', rfl⟩, rfl⟩
  refine WL_val rfl rfl rfl (R_move rfl rfl) ?_
  refine WL_val rfl rfl rfl (R_extract rfl rfl rfl) ?_
  refine WL_val rfl rfl rfl (R_extract rfl rfl rfl) ?_
  refine WL_val rfl rfl rfl (R_assign rfl rfl) ?_
  refine WL_val rfl rfl rfl (R_assign rfl rfl) ?_
  refine WL_nil ?_
  refine WQ_code ?_
  refine WC_seq ?_
  refine WC_block ?_
  refine WC_seq ?_
  refine WC_region ?_
  refine WL_val rfl rfl rfl (R_move rfl rfl) ?_
  refine WL_val rfl rfl rfl (R_neq rfl rfl rfl) ?_
  refine WL_val rfl rfl rfl (R_assign rfl rfl) ?_
  refine WL_nil ?_
  refine WQ_code ?_
  refine WC_dec rfl (fun c1 => ?_) (fun c1 => ?_)
  · have hv : ¬ vldS a := fun h9 => by unfold spE at c1; rw [if_pos h9] at c1; exact c1 rfl
    have e9 := wakeR_bad s hv
    have hsp : spE a = 2 := if_neg hv
    refine WC_seq ?_
    refine WC_region ?_
    refine WL_val rfl rfl rfl (R_move rfl rfl) ?_
    refine WL_val rfl rfl rfl (R_assign rfl rfl) ?_
    refine WL_val rfl rfl rfl (R_assign rfl rfl) ?_
    refine WL_nil ?_
    refine WQ_code ?_
    refine WC_ret ?_
    refine WQ_ret rfl rfl (.cons (.tmp rfl) (.cons (.tmp rfl) .nil)) rfl (by
        exact ⟨l, by rw [e9, hsp]; rfl, rfl, rfl, by unfold PS.wake; rw [e9, if_neg (by decide)]; exact hl.mono (Nat.le_succ N)⟩) (pqY)
  · have hv : vldS a := by by_cases h9 : vldS a; exact h9; (unfold spE at c1; rw [if_neg h9] at c1; exact absurd (by decide) c1)
    have hwt : s.waiting a = wAt s.W a := by unfold PS.waiting; rw [if_pos hv]
    refine WC_seq ?_
    refine WC_region ?_
    refine WL_val rfl rfl rfl (R_move rfl rfl) ?_
    refine WL_val rfl rfl rfl (R_len rfl Try.underlying32 rfl) ?_
    refine WL_val rfl rfl rfl (R_eql rfl rfl rfl) ?_
    refine WL_val rfl rfl rfl (R_assign rfl rfl) ?_
    refine WL_nil ?_
    refine WQ_code ?_
    refine WC_dec rfl (fun c2 => ?_) (fun c2 => ?_)
    · have e9 := wakeR_none s hv (by rw [← hwt]; exact List.eq_nil_of_length_eq_zero (by omega))
      refine WC_seq ?_
      refine WC_region ?_
      refine WL_val rfl rfl rfl (R_assign rfl rfl) ?_
      refine WL_val rfl rfl rfl (R_assign rfl rfl) ?_
      refine WL_nil ?_
      refine WQ_code ?_
      refine WC_ret ?_
      refine WQ_ret rfl rfl (.cons (.tmp rfl) (.cons (.tmp rfl) .nil)) rfl (by
          exact ⟨l, by rw [e9]; rfl, rfl, rfl, by unfold PS.wake; rw [e9, if_neg (by decide)]; exact hl.mono (Nat.le_succ N)⟩) (pqY)
    · obtain ⟨v, hx⟩ := exE (T := s.waiting a) (i := 0) (by omega)
      have e9 := wakeR_some s hv (hwt ▸ hx)
      obtain ⟨z, hz, hza, rfl⟩ := wAt_mem.1 (show v ∈ wAt s.W a by rw [← hwt]; exact List.mem_of_getElem? hx)
      obtain ⟨wb, hwb⟩ := own'.some_of (by omega)
      rw [hwb]
      refine WC_skip ?_
      refine WQ_code ?_
      refine WC_seq ?_
      refine WC_region ?_
      refine WL_val rfl rfl rfl (R_move rfl rfl) ?_
      refine WL_val rfl rfl rfl (R_move rfl rfl) ?_
      refine WL_val rfl rfl rfl (R_indexAddrN rfl Try.underlying32 Try.sizeOf3 rfl rfl (by simp; omega)) ?_
      refine WL_val rfl rfl rfl (R_load (v := .int .i64 (z.i : Int)) rfl sc3 rfl (mmY) (fm_get0 encI1 hx (j := 0) (by omega))) ?_
      refine WL_do rfl rfl rfl (D_call (pk_out N s l hl hN z hz) rfl rfl rfl rfl (pqY)) ?_
      rintro _ _ ⟨_, ⟨l', rfl, rfl, hlp, hl'⟩, rfl⟩
      refine WL_nil ?_
      refine WQ_code ?_
      refine WC_seq ?_
      refine WC_region ?_
      refine WL_val rfl rfl rfl (R_move rfl rfl) ?_
      refine WL_val rfl rfl rfl (R_indexAddrN rfl Try.underlying32 Try.sizeOf3 rfl rfl (by simp; omega)) ?_
      refine WL_val rfl rfl rfl (R_load (v := .int .i64 (z.i : Int)) rfl sc3 rfl (mmY) (fm_get0 encI1 hx (j := 0) (by omega))) ?_
      refine WL_val rfl rfl rfl (R_assign rfl rfl) ?_
      refine WL_val rfl rfl rfl (R_assign rfl rfl) ?_
      refine WL_nil ?_
      refine WQ_code ?_
      refine WC_ret ?_
      refine WQ_ret rfl rfl (.cons (.tmp rfl) (.cons (.tmp rfl) .nil)) rfl (by
          exact ⟨l', by rw [e9]; rfl, rfl, hlp, by unfold PS.wake; rw [e9, if_pos rfl]; exact hl'⟩) (pqY)
structure WkW where
  k : Nat
  l : PkM
theorem waiting_len {s : PS} (h : PsOk s) (a : Sp) : (s.waiting a).length ≤ 64 := by
  unfold PS.waiting
  split
  · exact Nat.le_trans (wAt_len _ _) h.few
  · exact Nat.zero_le _
theorem pk_wakeall (N : Nat) (s : PS) (l : PkM) (hl : PkIs N s l) (hN : N < 899000) (a : Sp) : Spec Try.prog 16 [ptrQ l.p, ekS a] (pkH l) (fun r H' => ∃ (l' : PkM) (ob : Option Nat) (c' : Nat) (tl' : List Value), r = .tuple #[slV ob (s.waiting a).length c', .int .i64 (spE a)] ∧ Own ob (s.waiting a).length c' 1 (ivs (s.waiting a)) tl' ∧ H' = ⟨ob, cl (ivs (s.waiting a) ++ tl') 3⟩ :: pkH l' ∧ l'.p = l.p ∧ PkIs (N + 64) (s.wakeAll a) l') := by
  have hwl := waiting_len hl.ps a
  refine Spec.of (E := [(0, ptrQ l.p), (1, ekS a)]) Try.func16 rfl (by kernel_rfl) Try.ntmps16 rfl rfl (fun w => ?_)
  refine WC_seq ?_
  refine WC_region ?_
  refine WL_do rfl rfl rfl (D_box (cs := [_, _]) rfl rfl rfl) ?_
  rintro _ _ ⟨b1, rfl, rfl⟩
  refine WL_val rfl rfl rfl (R_assign rfl rfl) ?_
  refine WL_val rfl rfl rfl (R_assign rfl rfl) ?_
  refine WL_nil ?_
  refine WQ_code ?_
  refine WC_seq ?_
  refine WC_region ?_
  refine WL_val rfl rfl rfl (R_move rfl rfl) ?_
  refine WL_val rfl rfl rfl (R_loadA (vs := [_, _]) rfl ag25 rfl (mmY) rfl (atZ)) ?_
  refine WL_do rfl rfl rfl (D_call (pk_waiting N s l hl a) rfl rfl rfl rfl (pqY)) ?_
  rintro _ _ ⟨_, ⟨ob, c', tl', rfl, own', rfl⟩, rfl⟩
  refine WL_val rfl rfl rfl (R_move rfl rfl) ?_
  refine WL_val rfl rfl rfl (R_extract rfl rfl rfl) ?_
  refine WL_val rfl rfl rfl (R_extract rfl rfl rfl) ?_
  refine WL_val rfl rfl rfl (R_assign rfl rfl) ?_
  refine WL_val rfl rfl rfl (R_assign rfl rfl) ?_
  refine WL_nil ?_
  refine WQ_code ?_
  refine WC_seq ?_
  refine WC_seq ?_
  refine WC_region ?_
  refine WL_val rfl rfl rfl (R_move rfl rfl) ?_
  refine WL_val rfl rfl rfl (R_len rfl Try.underlying32 rfl) ?_
  refine WL_val rfl rfl rfl (R_move rfl rfl) ?_
  refine WL_nil ?_
  refine WQ_code ?_
  refine WC_block ?_
  refine WC_loopF (G := WkW) [9, 18, 19, 20, 21, 22, 23, 24, 25] (fun y => y.k ≤ (s.waiting a).length ∧ PkIs (N + y.k) (((s.waiting a).take y.k).foldl PS.out s) y.l ∧ y.l.p = l.p) (fun y => [(18, .int .i64 (y.k : Int))]) (fun y => pkH y.l) (fun y => (s.waiting a).length - y.k) (⟨0, l⟩) (⟨Nat.zero_le _, hl, rfl⟩) leZ (pqY) ?_
  rintro y ⟨hyk, hy, hyp⟩
  rw [← hyp]
  refine WC_seq ?_
  refine WC_region ?_
  refine WL_val rfl rfl rfl (R_lss rfl rfl rfl) ?_
  refine WL_nil ?_
  refine WQ_code ?_
  refine WC_seq ?_
  refine WC_dec rfl (fun c1 => ?_) (fun c1 => ?_)
  · refine WC_skip ?_
    refine WQ_code ?_
    refine WC_seq ?_
    refine WC_block ?_
    refine WC_seq ?_
    refine WC_region ?_
    obtain ⟨v, hx⟩ := exE (T := s.waiting a) (i := y.k) (by omega)
    obtain ⟨wb, hwb⟩ := own'.some_of (by omega)
    rw [hwb]
    have hv : vldS a := by by_cases h9 : vldS a; exact h9; (unfold PS.waiting at hx; rw [if_neg h9] at hx; cases hx)
    have hwt : s.waiting a = wAt s.W a := by unfold PS.waiting; rw [if_pos hv]
    have hwk := wakes_ok hl.ps a y.k (by rw [← hwt]; omega)
    rw [← hwt] at hwk
    obtain ⟨z, hz, hza, rfl⟩ := wAt_mem.1 (show v ∈ wAt (((s.waiting a).take y.k).foldl PS.out s).W a by rw [hwk.2.1]; exact List.mem_of_getElem? (i := 0) (by rw [List.getElem?_drop]; exact hx))
    refine WL_val rfl rfl rfl (R_indexAddrN rfl Try.underlying32 Try.sizeOf3 rfl rfl (by omega)) ?_
    refine WL_val rfl rfl rfl (R_load (v := .int .i64 (z.i : Int)) rfl sc3 rfl (mmY) (fm_get0 encI1 hx (j := 0) (by omega))) ?_
    refine WL_val rfl rfl rfl (R_assign rfl rfl) ?_
    refine WL_nil ?_
    refine WQ_code ?_
    refine WC_region ?_
    refine WL_val rfl rfl rfl (R_move rfl rfl) ?_
    refine WL_val rfl rfl rfl (R_move rfl rfl) ?_
    refine WL_do rfl rfl rfl (D_call (pk_out (N + y.k) (((s.waiting a).take y.k).foldl PS.out s) y.l hy (by omega) z hz) rfl rfl rfl rfl (pqY)) ?_
    rintro _ _ ⟨_, ⟨l', rfl, rfl, hlp, hl'⟩, rfl⟩
    refine WL_nil ?_
    refine WQ_code ?_
    refine WC_region ?_
    refine WL_val rfl rfl rfl (R_add rfl rfl rfl (by omega)) ?_
    refine WL_val rfl rfl rfl (R_move rfl rfl) ?_
    refine WL_nil ?_
    refine WQ_nextF (⟨y.k + 1, l'⟩) (⟨by dsimp only; omega, by dsimp only; rw [take_get hx, List.foldl_append]; exact hl', hlp.trans rfl⟩) (by dsimp only; omega) leZ (psZ) rfl (pqY)
  · have hyl : y.k = (s.waiting a).length := by omega
    have hfin : PkIs (N + 64) (s.wakeAll a) y.l := by have h9 := hy.mono (show N + y.k ≤ N + 64 by omega); rw [hyl, List.take_length] at h9; exact h9
    refine WC_exit ?_
    refine WQ_code ?_
    refine WC_seq ?_
    refine WC_region ?_
    refine WL_val rfl rfl rfl (R_move rfl rfl) ?_
    refine WL_val rfl rfl rfl (R_move rfl rfl) ?_
    refine WL_val rfl rfl rfl (R_assign rfl rfl) ?_
    refine WL_val rfl rfl rfl (R_assign rfl rfl) ?_
    refine WL_nil ?_
    refine WQ_code ?_
    refine WC_ret ?_
    refine WQ_ret rfl rfl (.cons (.tmp rfl) (.cons (.tmp rfl) .nil)) rfl (by
        exact ⟨y.l, ob, c', tl', rfl, own', rfl, rfl, hfin⟩) (pqY)
theorem pk_leave (N : Nat) (s : PS) (l : PkM) (hl : PkIs N s l) (hN : N < 900000) (i : Int) : Spec Try.prog 22 [ptrQ l.p, .int .i64 i] (pkH l) (fun r H' => ∃ l' : PkM, r = .tuple #[ekS (s.whr i).1, .int .i64 (s.whr i).2] ∧ H' = pkH l' ∧ l'.p = l.p ∧ PkIs (N + 1) (s.leave i) l') := by
  refine Spec.of (E := [(0, ptrQ l.p), (1, .int .i64 i)]) Try.func22 rfl (by kernel_rfl) Try.ntmps22 rfl rfl (fun w => ?_)
  refine WC_seq ?_
  refine WC_region ?_
  refine WL_do rfl rfl rfl (D_alloc rfl zv25) ?_
  rintro _ _ ⟨b1, rfl, rfl⟩
  refine WL_val rfl rfl rfl (R_assign rfl rfl) ?_
  refine WL_nil ?_
  refine WQ_code ?_
  refine WC_seq ?_
  refine WC_region ?_
  refine WL_val rfl rfl rfl (R_move rfl rfl) ?_
  refine WL_val rfl rfl rfl (R_move rfl rfl) ?_
  refine WL_do rfl rfl rfl (D_call (pk_where N s l hl i) rfl rfl rfl rfl (pqY)) ?_
  rintro _ _ ⟨_, ⟨rfl, rfl⟩, rfl⟩
  refine WL_val rfl rfl rfl (R_move rfl rfl) ?_
  refine WL_val rfl rfl rfl (R_extract rfl rfl rfl) ?_
  refine WL_val rfl rfl rfl (R_extract rfl rfl rfl) ?_
  refine WL_do rfl rfl rfl (D_alloc rfl zv25) ?_
  rintro _ _ ⟨b2, rfl, rfl⟩
  refine WL_do0 rfl rfl (D_store (vs := [_, _]) rfl Try.sizeOf25 rfl rfl rfl rfl rfl (plY) (by exact Nat.le_of_ble_eq_true rfl)) ?_
  rintro _ _ rfl
  refine WL_val rfl rfl rfl (R_assign rfl rfl) ?_
  refine WL_nil ?_
  refine WQ_code ?_
  refine WC_seq ?_
  refine WC_seq ?_
  refine WC_region ?_
  refine WL_val rfl rfl rfl (R_move rfl rfl) ?_
  refine WL_val rfl rfl rfl (R_eql rfl rfl rfl) ?_
  refine WL_nil ?_
  refine WQ_code ?_
  refine WC_dec rfl (fun c1 => ?_) (fun c1 => ?_)
  · have h9 : (s.whr i).2 = 0 := by omega
    obtain ⟨z, hz, rfl, e9⟩ := whr_some hl.ps h9
    refine WC_region ?_
    refine WL_val rfl rfl rfl (R_move rfl rfl) ?_
    refine WL_val rfl rfl rfl (R_move rfl rfl) ?_
    refine WL_do rfl rfl rfl (D_call (pk_out N s l hl hN z hz) rfl rfl rfl rfl (pqY)) ?_
    rintro _ _ ⟨_, ⟨l', rfl, rfl, hlp, hl'⟩, rfl⟩
    refine WL_nil ?_
    refine WQ_code ?_
    refine WC_seq ?_
    refine WC_region ?_
    refine WL_val rfl rfl rfl (R_loadA (vs := [_, _]) rfl ag25 rfl (mmY) rfl (atZ)) ?_
    refine WL_val rfl rfl rfl (R_move rfl rfl) ?_
    refine WL_do0 rfl rfl (D_store (vs := [_, _]) rfl Try.sizeOf25 rfl rfl rfl rfl rfl (plY) (by exact Nat.le_of_ble_eq_true rfl)) ?_
    rintro _ _ rfl
    refine WL_val rfl rfl rfl (R_assign rfl rfl) ?_
    refine WL_nil ?_
    refine WQ_code ?_
    refine WC_ret ?_
    refine WQ_ret rfl rfl (.cons (.cell (vs := [_, _]) rfl ag25 (mmY) rfl (atZ)) (.cons (.tmp rfl) .nil)) rfl (by
        exact ⟨l', rfl, rfl, hlp, by rw [leave_yes s h9]; exact hl'⟩) (pqY)
  · have h9 : (s.whr i).2 ≠ 0 := by omega
    refine WC_skip ?_
    refine WQ_code ?_
    refine WC_seq ?_
    refine WC_region ?_
    refine WL_val rfl rfl rfl (R_loadA (vs := [_, _]) rfl ag25 rfl (mmY) rfl (atZ)) ?_
    refine WL_val rfl rfl rfl (R_move rfl rfl) ?_
    refine WL_do0 rfl rfl (D_store (vs := [_, _]) rfl Try.sizeOf25 rfl rfl rfl rfl rfl (plY) (by exact Nat.le_of_ble_eq_true rfl)) ?_
    rintro _ _ rfl
    refine WL_val rfl rfl rfl (R_assign rfl rfl) ?_
    refine WL_nil ?_
    refine WQ_code ?_
    refine WC_ret ?_
    refine WQ_ret rfl rfl (.cons (.cell (vs := [_, _]) rfl ag25 (mmY) rfl (atZ)) (.cons (.tmp rfl) .nil)) rfl (by
        exact ⟨l, rfl, rfl, rfl, by rw [leave_no s h9]; exact hl.mono (Nat.le_succ N)⟩) (pqY)

end Go.Proofs.Ytljmeemgjbcgeaa
