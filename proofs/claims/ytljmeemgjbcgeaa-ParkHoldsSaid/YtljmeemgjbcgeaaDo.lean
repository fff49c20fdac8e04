/-
  Chapter 09 (park), part Do: contracts of functions that the laws call, each for the heap it names.
-/
import Derived.Test.YtljmeemgjbcgeaaRows
import Derived.Test.YtljmeemgjbcgeaaZSLQueue
import Derived.Test.YtljmeemgjbcgeaaTab
import Derived.Test.YtljmeemgjbcgeaaRefD
set_option linter.unusedVariables false
set_option maxRecDepth 20000
set_option maxHeartbeats 4000000
namespace Go.Proofs.Ytljmeemgjbcgeaa


theorem step_len (s : PS) (fr to i : Int) : (s.step fr to i).sm.length = s.sm.length := stepR_len _ _ _ _ _
theorem out_len (s : PS) (i : Int) : (s.out i).sm.length = s.sm.length := stepR_len _ _ _ _ _
theorem park_len (s : PS) (i : Int) (a : Sp) : (s.park i a).sm.length = s.sm.length := by
  unfold PS.park; split
  · exact stepR_len _ _ _ _ _
  · rfl
theorem leave_len (s : PS) (i : Int) : (s.leave i).sm.length = s.sm.length := by
  unfold PS.leave; split
  · exact out_len _ _
  · rfl
theorem wake_len (s : PS) (a : Sp) : (s.wake a).sm.length = s.sm.length := by
  unfold PS.wake; split
  · exact out_len _ _
  · rfl
theorem wakeAll_len (s : PS) (a : Sp) : (s.wakeAll a).sm.length = s.sm.length := by
  unfold PS.wakeAll
  generalize s.waiting a = l
  induction l generalizing s with
  | nil => rfl
  | cons v l ih => rw [List.foldl_cons, ih, out_len]
structure Ac9 where
  what : Int
  task : Int
  at_ : Sp
theorem lspot_ok (a b : Int) : Spec Try.prog 27 [.int .i64 a, .int .i64 b] [] (fun r H' => r = ekS (a, b) ∧ H' = []) := by
  refine Spec.of (E := [(0, .int .i64 a), (1, .int .i64 b)]) Try.func27 rfl (by kernel_rfl) Try.ntmps27 rfl rfl (fun w => ?_)
  refine WC_seq ?_
  refine WC_region ?_
  refine WL_do rfl rfl rfl (D_alloc rfl zv25) ?_
  rintro _ _ ⟨b1, rfl, rfl⟩
  refine WL_nil ?_
  refine WQ_code ?_
  refine WC_seq ?_
  refine WC_region ?_
  refine WL_val rfl rfl rfl (R_move rfl rfl) ?_
  refine WL_val rfl rfl rfl (R_move rfl rfl) ?_
  refine WL_val rfl rfl rfl (R_build rfl zv25 pl25 rfl rfl) ?_
  refine WL_do0 rfl rfl (D_store (vs := [_, _]) rfl Try.sizeOf25 rfl rfl rfl rfl rfl (plY) (by exact Nat.le_of_ble_eq_true rfl)) ?_
  rintro _ _ rfl
  refine WL_nil ?_
  refine WQ_code ?_
  refine WC_ret ?_
  refine WQ_ret rfl rfl (.cons (.cell (vs := [_, _]) rfl ag25 (mmY) rfl (atZ)) .nil) rfl (by
      exact ⟨rfl, rfl⟩) (pqY)
theorem ldo_ok (N : Nat) (s : PS) (l : PkM) (hl : PkIs N s l) (r : RfM) (hr : RfOk s r) (hN : N < 800000) (a : Ac9) : Spec Try.prog 25 [ptrQ l.p, rfV s r, .agg #[.int .i64 a.what, .int .i64 a.task, .int .i64 a.at_.1, .int .i64 a.at_.2]] (rfH s r ++ pkH l)
    (fun v H' => ∃ (s' : PS) (l' : PkM) (r' : RfM), v = .tuple #[ptrQ l'.p, rfV s' r', .bool true] ∧ H' = rfH s' r' ++ pkH l' ∧ PkIs (N + 70) s' l' ∧ RfOk s' r' ∧ s'.sm.length = s.sm.length) := by
  have hs := hl.ps.len
  have hroom := hl.room
  have hwl := waiting_len hl.ps a.at_
  refine Spec.of (E := [(0, ptrQ l.p), (1, rfV s r), (2, .agg #[.int .i64 a.what, .int .i64 a.task, .int .i64 a.at_.1, .int .i64 a.at_.2])]) Try.func25 rfl (by kernel_rfl) Try.ntmps25 rfl rfl (fun w => ?_)
  refine WC_seq ?_
  refine WC_region ?_
  refine WL_do rfl rfl rfl (D_box (cs := [_, _, _]) rfl rfl rfl) ?_
  rintro _ _ ⟨b1, rfl, rfl⟩
  refine WL_do rfl rfl rfl (D_box (cs := [_, _, _, _]) rfl rfl rfl) ?_
  rintro _ _ ⟨b2, rfl, rfl⟩
  refine WL_val rfl rfl rfl (R_assign rfl rfl) ?_
  refine WL_do rfl rfl rfl (D_alloc rfl zv57) ?_
  rintro _ _ ⟨b3, rfl, rfl⟩
  refine WL_val rfl rfl rfl (R_assign rfl rfl) ?_
  refine WL_nil ?_
  refine WQ_code ?_
  refine WC_seq ?_
  refine WC_seq ?_
  refine WC_region ?_
  refine WL_val rfl rfl rfl (R_fieldAddr rfl fa48_0 rfl) ?_
  refine WL_val rfl rfl rfl (R_load rfl sc3 rfl (mmY) rfl) ?_
  refine WL_nil ?_
  refine WQ_code ?_
  refine WC_block ?_
  refine WC_seq ?_
  refine WC_region ?_
  refine WL_val rfl rfl rfl (R_eql rfl rfl rfl) ?_
  refine WL_val rfl rfl rfl (R_assign rfl rfl) ?_
  refine WL_nil ?_
  refine WQ_code ?_
  refine WC_dec rfl (fun c1 => ?_) (fun c1 => ?_)
  · refine WC_seq ?_
    refine WC_region ?_
    refine WL_val rfl rfl rfl (R_move rfl rfl) ?_
    refine WL_val rfl rfl rfl (R_fieldAddr rfl fa48_1 rfl) ?_
    refine WL_val rfl rfl rfl (R_load rfl sc3 rfl (mmY) rfl) ?_
    refine WL_do rfl rfl rfl (D_call (pk_start N s l hl (by omega) a.task) rfl rfl rfl rfl (pqY)) ?_
    rintro _ _ ⟨_, ⟨l', rfl, rfl, hlp, hl'⟩, rfl⟩
    rw [← hlp]
    refine WL_val rfl rfl rfl (R_assign rfl rfl) ?_
    refine WL_nil ?_
    refine WQ_code ?_
    refine WC_seq ?_
    refine WC_region ?_
    refine WL_val rfl rfl rfl (R_loadA (vs := [_, _, _]) rfl ag57 rfl (mmY) rfl (atZ)) ?_
    refine WL_val rfl rfl rfl (R_fieldAddr rfl fa48_1 rfl) ?_
    refine WL_val rfl rfl rfl (R_load rfl sc3 rfl (mmY) rfl) ?_
    refine WL_do rfl rfl rfl (D_call (rf_start s r hr hs hroom a.task) rfl rfl rfl rfl (pqY)) ?_
    rintro _ _ ⟨_, ⟨r', rfl, rfl, hr'⟩, rfl⟩
    refine WL_val rfl rfl rfl (R_move rfl rfl) ?_
    refine WL_val rfl rfl rfl (R_extract rfl rfl rfl) ?_
    refine WL_val rfl rfl rfl (R_extract rfl rfl rfl) ?_
    refine WL_do rfl rfl rfl (D_alloc rfl zv57) ?_
    rintro _ _ ⟨b4, rfl, rfl⟩
    refine WL_do0 rfl rfl (D_store (vs := [_, _, _]) rfl Try.sizeOf57 rfl rfl rfl rfl rfl (plY) (by exact Nat.le_of_ble_eq_true rfl)) ?_
    rintro _ _ rfl
    refine WL_val rfl rfl rfl (R_assign rfl rfl) ?_
    refine WL_nil ?_
    refine WQ_code ?_
    refine WC_seq ?_
    refine WC_drawR [⟨some b3, _⟩] [(0, true), (1, true), (2, true), (3, true), (4, true), (5, true), (6, false), (7, true)] followsMixed rfl rfl (by kernel_rfl) (pqY) ?_
    refine WM_val rfl rfl rfl rfl (R_move rfl rfl) ?_
    refine WM_val rfl rfl rfl rfl (R_loadA (vs := [_, _, _]) rfl ag57 rfl (mmY) rfl (atZ)) ?_
    refine WM_val rfl rfl rfl rfl (R_move rfl rfl) ?_
    refine WM_val rfl rfl rfl rfl (R_move rfl rfl) ?_
    refine WM_val rfl rfl rfl rfl (R_eql rfl rfl rfl) ?_
    refine WM_set (s := 56) (v := .bool true) rfl (by simp) ?_
    refine WM_val rfl rfl rfl rfl (R_assign rfl rfl) ?_
    refine WM_do0 rfl rfl rfl (D_store (vs := [_, _, _]) rfl Try.sizeOf57 rfl rfl rfl rfl rfl (plY) (by exact Nat.le_of_ble_eq_true rfl)) ?_
    rintro _ _ rfl
    refine ⟨⟨_, pqY⟩, ?_⟩
    refine WM_val rfl rfl rfl rfl (R_assign rfl rfl) ?_
    refine WM_nil ?_
    refine WQ_code ?_
    refine WC_ret ?_
    refine WQ_ret rfl rfl (.cons (.tmp rfl) (.cons (.cell (vs := [_, _, _]) rfl ag57 (mmY) rfl (atZ)) (.cons (.tmp rfl) .nil))) rfl (by
        exact ⟨_, l', r', rfl, rfl, hl'.mono (by omega), hr', step_len _ _ _ _⟩) (pqY)
  · refine WC_seq ?_
    refine WC_region ?_
    refine WL_val rfl rfl rfl (R_eql rfl rfl rfl) ?_
    refine WL_val rfl rfl rfl (R_assign rfl rfl) ?_
    refine WL_nil ?_
    refine WQ_code ?_
    refine WC_dec rfl (fun c2 => ?_) (fun c2 => ?_)
    · refine WC_seq ?_
      refine WC_region ?_
      refine WL_val rfl rfl rfl (R_move rfl rfl) ?_
      refine WL_val rfl rfl rfl (R_fieldAddr rfl fa48_1 rfl) ?_
      refine WL_val rfl rfl rfl (R_load rfl sc3 rfl (mmY) rfl) ?_
      refine WL_do rfl rfl rfl (D_call (pk_fin N s l hl (by omega) a.task) rfl rfl rfl rfl (pqY)) ?_
      rintro _ _ ⟨_, ⟨l', rfl, rfl, hlp, hl'⟩, rfl⟩
      rw [← hlp]
      refine WL_val rfl rfl rfl (R_assign rfl rfl) ?_
      refine WL_nil ?_
      refine WQ_code ?_
      refine WC_seq ?_
      refine WC_region ?_
      refine WL_val rfl rfl rfl (R_loadA (vs := [_, _, _]) rfl ag57 rfl (mmY) rfl (atZ)) ?_
      refine WL_val rfl rfl rfl (R_fieldAddr rfl fa48_1 rfl) ?_
      refine WL_val rfl rfl rfl (R_load rfl sc3 rfl (mmY) rfl) ?_
      refine WL_do rfl rfl rfl (D_call (rf_finish s r hr hs hroom a.task) rfl rfl rfl rfl (pqY)) ?_
      rintro _ _ ⟨_, ⟨r', rfl, rfl, hr'⟩, rfl⟩
      refine WL_val rfl rfl rfl (R_move rfl rfl) ?_
      refine WL_val rfl rfl rfl (R_extract rfl rfl rfl) ?_
      refine WL_val rfl rfl rfl (R_extract rfl rfl rfl) ?_
      refine WL_do rfl rfl rfl (D_alloc rfl zv57) ?_
      rintro _ _ ⟨b5, rfl, rfl⟩
      refine WL_do0 rfl rfl (D_store (vs := [_, _, _]) rfl Try.sizeOf57 rfl rfl rfl rfl rfl (plY) (by exact Nat.le_of_ble_eq_true rfl)) ?_
      rintro _ _ rfl
      refine WL_val rfl rfl rfl (R_assign rfl rfl) ?_
      refine WL_nil ?_
      refine WQ_code ?_
      refine WC_seq ?_
      refine WC_drawR [⟨some b3, _⟩] [(0, true), (1, true), (2, true), (3, true), (4, true), (5, true), (6, false), (7, true)] followsMixed rfl rfl (by kernel_rfl) (pqY) ?_
      refine WM_val rfl rfl rfl rfl (R_move rfl rfl) ?_
      refine WM_val rfl rfl rfl rfl (R_loadA (vs := [_, _, _]) rfl ag57 rfl (mmY) rfl (atZ)) ?_
      refine WM_val rfl rfl rfl rfl (R_move rfl rfl) ?_
      refine WM_val rfl rfl rfl rfl (R_move rfl rfl) ?_
      refine WM_val rfl rfl rfl rfl (R_eql rfl rfl rfl) ?_
      refine WM_set (s := 74) (v := .bool true) rfl (by simp) ?_
      refine WM_val rfl rfl rfl rfl (R_assign rfl rfl) ?_
      refine WM_do0 rfl rfl rfl (D_store (vs := [_, _, _]) rfl Try.sizeOf57 rfl rfl rfl rfl rfl (plY) (by exact Nat.le_of_ble_eq_true rfl)) ?_
      rintro _ _ rfl
      refine ⟨⟨_, pqY⟩, ?_⟩
      refine WM_val rfl rfl rfl rfl (R_assign rfl rfl) ?_
      refine WM_nil ?_
      refine WQ_code ?_
      refine WC_ret ?_
      refine WQ_ret rfl rfl (.cons (.tmp rfl) (.cons (.cell (vs := [_, _, _]) rfl ag57 (mmY) rfl (atZ)) (.cons (.tmp rfl) .nil))) rfl (by
          exact ⟨_, l', r', rfl, rfl, hl'.mono (by omega), hr', step_len _ _ _ _⟩) (pqY)
    · refine WC_seq ?_
      refine WC_region ?_
      refine WL_val rfl rfl rfl (R_eql rfl rfl rfl) ?_
      refine WL_val rfl rfl rfl (R_assign rfl rfl) ?_
      refine WL_nil ?_
      refine WQ_code ?_
      refine WC_dec rfl (fun c3 => ?_) (fun c3 => ?_)
      · refine WC_seq ?_
        refine WC_region ?_
        refine WL_val rfl rfl rfl (R_move rfl rfl) ?_
        refine WL_val rfl rfl rfl (R_fieldAddr rfl fa48_1 rfl) ?_
        refine WL_val rfl rfl rfl (R_load rfl sc3 rfl (mmY) rfl) ?_
        refine WL_do rfl rfl rfl (D_call (pk_turn N s l hl (by omega) a.task) rfl rfl rfl rfl (pqY)) ?_
        rintro _ _ ⟨_, ⟨l', rfl, rfl, hlp, hl'⟩, rfl⟩
        rw [← hlp]
        refine WL_val rfl rfl rfl (R_assign rfl rfl) ?_
        refine WL_nil ?_
        refine WQ_code ?_
        refine WC_seq ?_
        refine WC_region ?_
        refine WL_val rfl rfl rfl (R_loadA (vs := [_, _, _]) rfl ag57 rfl (mmY) rfl (atZ)) ?_
        refine WL_val rfl rfl rfl (R_fieldAddr rfl fa48_1 rfl) ?_
        refine WL_val rfl rfl rfl (R_load rfl sc3 rfl (mmY) rfl) ?_
        refine WL_do rfl rfl rfl (D_call (rf_turn s r hr hs hroom a.task) rfl rfl rfl rfl (pqY)) ?_
        rintro _ _ ⟨_, ⟨r', rfl, rfl, hr'⟩, rfl⟩
        refine WL_val rfl rfl rfl (R_move rfl rfl) ?_
        refine WL_val rfl rfl rfl (R_extract rfl rfl rfl) ?_
        refine WL_val rfl rfl rfl (R_extract rfl rfl rfl) ?_
        refine WL_do rfl rfl rfl (D_alloc rfl zv57) ?_
        rintro _ _ ⟨b6, rfl, rfl⟩
        refine WL_do0 rfl rfl (D_store (vs := [_, _, _]) rfl Try.sizeOf57 rfl rfl rfl rfl rfl (plY) (by exact Nat.le_of_ble_eq_true rfl)) ?_
        rintro _ _ rfl
        refine WL_val rfl rfl rfl (R_assign rfl rfl) ?_
        refine WL_nil ?_
        refine WQ_code ?_
        refine WC_seq ?_
        refine WC_drawR [⟨some b3, _⟩] [(0, true), (1, true), (2, true), (3, true), (4, true), (5, true), (6, false), (7, true)] followsMixed rfl rfl (by kernel_rfl) (pqY) ?_
        refine WM_val rfl rfl rfl rfl (R_move rfl rfl) ?_
        refine WM_val rfl rfl rfl rfl (R_loadA (vs := [_, _, _]) rfl ag57 rfl (mmY) rfl (atZ)) ?_
        refine WM_val rfl rfl rfl rfl (R_move rfl rfl) ?_
        refine WM_val rfl rfl rfl rfl (R_move rfl rfl) ?_
        refine WM_val rfl rfl rfl rfl (R_eql rfl rfl rfl) ?_
        refine WM_set (s := 92) (v := .bool true) rfl (by simp) ?_
        refine WM_val rfl rfl rfl rfl (R_assign rfl rfl) ?_
        refine WM_do0 rfl rfl rfl (D_store (vs := [_, _, _]) rfl Try.sizeOf57 rfl rfl rfl rfl rfl (plY) (by exact Nat.le_of_ble_eq_true rfl)) ?_
        rintro _ _ rfl
        refine ⟨⟨_, pqY⟩, ?_⟩
        refine WM_val rfl rfl rfl rfl (R_assign rfl rfl) ?_
        refine WM_nil ?_
        refine WQ_code ?_
        refine WC_ret ?_
        refine WQ_ret rfl rfl (.cons (.tmp rfl) (.cons (.cell (vs := [_, _, _]) rfl ag57 (mmY) rfl (atZ)) (.cons (.tmp rfl) .nil))) rfl (by
            exact ⟨_, l', r', rfl, rfl, hl'.mono (by omega), hr', step_len _ _ _ _⟩) (pqY)
      · refine WC_seq ?_
        refine WC_region ?_
        refine WL_val rfl rfl rfl (R_eql rfl rfl rfl) ?_
        refine WL_val rfl rfl rfl (R_assign rfl rfl) ?_
        refine WL_nil ?_
        refine WQ_code ?_
        refine WC_dec rfl (fun c4 => ?_) (fun c4 => ?_)
        · refine WC_seq ?_
          refine WC_region ?_
          refine WL_val rfl rfl rfl (R_move rfl rfl) ?_
          refine WL_val rfl rfl rfl (R_fieldAddr rfl fa48_1 rfl) ?_
          refine WL_val rfl rfl rfl (R_load rfl sc3 rfl (mmY) rfl) ?_
          refine WL_val rfl rfl rfl (R_fieldAddr rfl fa48_2 rfl) ?_
          refine WL_val rfl rfl rfl (R_loadA (vs := [_, _]) rfl ag25 rfl (mmY) rfl (atZ)) ?_
          refine WL_do rfl rfl rfl (D_call (pk_park N s l hl (by omega) a.task a.at_) rfl rfl rfl rfl (pqY)) ?_
          rintro _ _ ⟨_, ⟨l', rfl, rfl, hlp, hl'⟩, rfl⟩
          rw [← hlp]
          refine WL_val rfl rfl rfl (R_assign rfl rfl) ?_
          refine WL_nil ?_
          refine WQ_code ?_
          refine WC_seq ?_
          refine WC_region ?_
          refine WL_val rfl rfl rfl (R_loadA (vs := [_, _, _]) rfl ag57 rfl (mmY) rfl (atZ)) ?_
          refine WL_val rfl rfl rfl (R_fieldAddr rfl fa48_1 rfl) ?_
          refine WL_val rfl rfl rfl (R_load rfl sc3 rfl (mmY) rfl) ?_
          refine WL_val rfl rfl rfl (R_fieldAddr rfl fa48_2 rfl) ?_
          refine WL_val rfl rfl rfl (R_loadA (vs := [_, _]) rfl ag25 rfl (mmY) rfl (atZ)) ?_
          refine WL_do rfl rfl rfl (D_call (rf_park s r hr hs hroom hl.ps a.task a.at_) rfl rfl rfl rfl (pqY)) ?_
          rintro _ _ ⟨_, ⟨r', rfl, rfl, hr'⟩, rfl⟩
          refine WL_val rfl rfl rfl (R_move rfl rfl) ?_
          refine WL_val rfl rfl rfl (R_extract rfl rfl rfl) ?_
          refine WL_val rfl rfl rfl (R_extract rfl rfl rfl) ?_
          refine WL_do rfl rfl rfl (D_alloc rfl zv57) ?_
          rintro _ _ ⟨b7, rfl, rfl⟩
          refine WL_do0 rfl rfl (D_store (vs := [_, _, _]) rfl Try.sizeOf57 rfl rfl rfl rfl rfl (plY) (by exact Nat.le_of_ble_eq_true rfl)) ?_
          rintro _ _ rfl
          refine WL_val rfl rfl rfl (R_assign rfl rfl) ?_
          refine WL_nil ?_
          refine WQ_code ?_
          refine WC_seq ?_
          refine WC_drawR [⟨some b3, _⟩] [(0, true), (1, true), (2, true), (3, true), (4, true), (5, true), (6, false), (7, true)] followsMixed rfl rfl (by kernel_rfl) (pqY) ?_
          refine WM_val rfl rfl rfl rfl (R_move rfl rfl) ?_
          refine WM_val rfl rfl rfl rfl (R_loadA (vs := [_, _, _]) rfl ag57 rfl (mmY) rfl (atZ)) ?_
          refine WM_val rfl rfl rfl rfl (R_move rfl rfl) ?_
          refine WM_val rfl rfl rfl rfl (R_move rfl rfl) ?_
          refine WM_val rfl rfl rfl rfl (R_eql rfl rfl rfl) ?_
          refine WM_set (s := 114) (v := .bool true) rfl (by simp) ?_
          refine WM_val rfl rfl rfl rfl (R_assign rfl rfl) ?_
          refine WM_do0 rfl rfl rfl (D_store (vs := [_, _, _]) rfl Try.sizeOf57 rfl rfl rfl rfl rfl (plY) (by exact Nat.le_of_ble_eq_true rfl)) ?_
          rintro _ _ rfl
          refine ⟨⟨_, pqY⟩, ?_⟩
          refine WM_val rfl rfl rfl rfl (R_assign rfl rfl) ?_
          refine WM_nil ?_
          refine WQ_code ?_
          refine WC_ret ?_
          refine WQ_ret rfl rfl (.cons (.tmp rfl) (.cons (.cell (vs := [_, _, _]) rfl ag57 (mmY) rfl (atZ)) (.cons (.tmp rfl) .nil))) rfl (by
              exact ⟨_, l', r', rfl, rfl, hl'.mono (by omega), hr', park_len _ _ _⟩) (pqY)
        · refine WC_seq ?_
          refine WC_region ?_
          refine WL_val rfl rfl rfl (R_eql rfl rfl rfl) ?_
          refine WL_val rfl rfl rfl (R_assign rfl rfl) ?_
          refine WL_nil ?_
          refine WQ_code ?_
          refine WC_dec rfl (fun c5 => ?_) (fun c5 => ?_)
          · refine WC_seq ?_
            refine WC_region ?_
            refine WL_val rfl rfl rfl (R_move rfl rfl) ?_
            refine WL_val rfl rfl rfl (R_fieldAddr rfl fa48_2 rfl) ?_
            refine WL_val rfl rfl rfl (R_loadA (vs := [_, _]) rfl ag25 rfl (mmY) rfl (atZ)) ?_
            refine WL_do rfl rfl rfl (D_call (pk_wake N s l hl (by omega) a.at_) rfl rfl rfl rfl (pqY)) ?_
            rintro _ _ ⟨_, ⟨l', rfl, rfl, hlp, hl'⟩, rfl⟩
            rw [← hlp]
            refine WL_val rfl rfl rfl (R_move rfl rfl) ?_
            refine WL_val rfl rfl rfl (R_extract rfl rfl rfl) ?_
            refine WL_val rfl rfl rfl (R_extract rfl rfl rfl) ?_
            refine WL_val rfl rfl rfl (R_assign rfl rfl) ?_
            refine WL_val rfl rfl rfl (R_assign rfl rfl) ?_
            refine WL_nil ?_
            refine WQ_code ?_
            refine WC_seq ?_
            refine WC_region ?_
            refine WL_val rfl rfl rfl (R_loadA (vs := [_, _, _]) rfl ag57 rfl (mmY) rfl (atZ)) ?_
            refine WL_val rfl rfl rfl (R_fieldAddr rfl fa48_2 rfl) ?_
            refine WL_val rfl rfl rfl (R_loadA (vs := [_, _]) rfl ag25 rfl (mmY) rfl (atZ)) ?_
            refine WL_do rfl rfl rfl (D_call (rf_wake s r hr hs hroom hl.ps a.at_) rfl rfl rfl rfl (pqY)) ?_
            rintro _ _ ⟨_, ⟨r', rfl, rfl, hr'⟩, rfl⟩
            refine WL_val rfl rfl rfl (R_move rfl rfl) ?_
            refine WL_val rfl rfl rfl (R_extract rfl rfl rfl) ?_
            refine WL_val rfl rfl rfl (R_extract rfl rfl rfl) ?_
            refine WL_val rfl rfl rfl (R_extract rfl rfl rfl) ?_
            refine WL_do rfl rfl rfl (D_alloc rfl zv57) ?_
            rintro _ _ ⟨b8, rfl, rfl⟩
            refine WL_do0 rfl rfl (D_store (vs := [_, _, _]) rfl Try.sizeOf57 rfl rfl rfl rfl rfl (plY) (by exact Nat.le_of_ble_eq_true rfl)) ?_
            rintro _ _ rfl
            refine WL_val rfl rfl rfl (R_assign rfl rfl) ?_
            refine WL_val rfl rfl rfl (R_assign rfl rfl) ?_
            refine WL_nil ?_
            refine WQ_code ?_
            refine WC_seq ?_
            refine WC_drawR [⟨some b3, _⟩] [(0, true), (1, true), (2, true), (3, true), (4, true), (5, true), (6, true), (7, true), (8, true), (9, true), (10, true), (11, false), (12, true)] followsMixed rfl rfl (by kernel_rfl) (pqY) ?_
            refine WM_val rfl rfl rfl rfl (R_move rfl rfl) ?_
            refine WM_val rfl rfl rfl rfl (R_loadA (vs := [_, _, _]) rfl ag57 rfl (mmY) rfl (atZ)) ?_
            refine WM_val rfl rfl rfl rfl (R_move rfl rfl) ?_
            refine WM_val rfl rfl rfl rfl (R_move rfl rfl) ?_
            refine WM_val rfl rfl rfl rfl (R_eql rfl rfl rfl) ?_
            refine WM_set (s := 136) (v := .bool true) rfl (by simp) ?_
            refine WM_val rfl rfl rfl rfl (R_move rfl rfl) ?_
            refine WM_val rfl rfl rfl rfl (R_move rfl rfl) ?_
            refine WM_val rfl rfl rfl rfl (R_move rfl rfl) ?_
            refine WM_val rfl rfl rfl rfl (R_eql rfl rfl rfl) ?_
            refine WM_set (s := 140) (v := .bool true) rfl (by simp) ?_
            refine WM_val rfl rfl rfl rfl (R_pickT rfl rfl rfl) ?_
            refine WM_val rfl rfl rfl rfl (R_assign rfl rfl) ?_
            refine WM_do0 rfl rfl rfl (D_store (vs := [_, _, _]) rfl Try.sizeOf57 rfl rfl rfl rfl rfl (plY) (by exact Nat.le_of_ble_eq_true rfl)) ?_
            rintro _ _ rfl
            refine ⟨⟨_, pqY⟩, ?_⟩
            refine WM_val rfl rfl rfl rfl (R_assign rfl rfl) ?_
            refine WM_nil ?_
            refine WQ_code ?_
            refine WC_ret ?_
            refine WQ_ret rfl rfl (.cons (.tmp rfl) (.cons (.cell (vs := [_, _, _]) rfl ag57 (mmY) rfl (atZ)) (.cons (.tmp rfl) .nil))) rfl (by
                exact ⟨_, l', r', rfl, rfl, hl'.mono (by omega), hr', wake_len _ _⟩) (pqY)
          · refine WC_seq ?_
            refine WC_region ?_
            refine WL_val rfl rfl rfl (R_eql rfl rfl rfl) ?_
            refine WL_val rfl rfl rfl (R_assign rfl rfl) ?_
            refine WL_nil ?_
            refine WQ_code ?_
            refine WC_dec rfl (fun c6 => ?_) (fun c6 => ?_)
            · refine WC_seq ?_
              refine WC_region ?_
              refine WL_val rfl rfl rfl (R_move rfl rfl) ?_
              refine WL_val rfl rfl rfl (R_fieldAddr rfl fa48_2 rfl) ?_
              refine WL_val rfl rfl rfl (R_loadA (vs := [_, _]) rfl ag25 rfl (mmY) rfl (atZ)) ?_
              refine WL_do rfl rfl rfl (D_call (pk_wakeall N s l hl (by omega) a.at_) rfl rfl rfl rfl (pqY)) ?_
              rintro _ _ ⟨_, ⟨l', ob1, c1, tl1, rfl, own1, rfl, hlp, hl'⟩, rfl⟩
              rw [← hlp]
              refine WL_val rfl rfl rfl (R_move rfl rfl) ?_
              refine WL_val rfl rfl rfl (R_extract rfl rfl rfl) ?_
              refine WL_val rfl rfl rfl (R_extract rfl rfl rfl) ?_
              refine WL_val rfl rfl rfl (R_assign rfl rfl) ?_
              refine WL_val rfl rfl rfl (R_assign rfl rfl) ?_
              refine WL_nil ?_
              refine WQ_code ?_
              refine WC_seq ?_
              refine WC_region ?_
              refine WL_val rfl rfl rfl (R_loadA (vs := [_, _, _]) rfl ag57 rfl (mmY) rfl (atZ)) ?_
              refine WL_val rfl rfl rfl (R_fieldAddr rfl fa48_2 rfl) ?_
              refine WL_val rfl rfl rfl (R_loadA (vs := [_, _]) rfl ag25 rfl (mmY) rfl (atZ)) ?_
              refine WL_do rfl rfl rfl (D_call (rf_wakeall s r hr hs hroom hl.ps a.at_) rfl rfl rfl rfl (pqY)) ?_
              rintro _ _ ⟨_, ⟨r', ob2, c2, tl2, rfl, own2, rfl, hr'⟩, rfl⟩
              refine WL_val rfl rfl rfl (R_move rfl rfl) ?_
              refine WL_val rfl rfl rfl (R_extract rfl rfl rfl) ?_
              refine WL_val rfl rfl rfl (R_extract rfl rfl rfl) ?_
              refine WL_val rfl rfl rfl (R_extract rfl rfl rfl) ?_
              refine WL_do rfl rfl rfl (D_alloc rfl zv57) ?_
              rintro _ _ ⟨b9, rfl, rfl⟩
              refine WL_do0 rfl rfl (D_store (vs := [_, _, _]) rfl Try.sizeOf57 rfl rfl rfl rfl rfl (plY) (by exact Nat.le_of_ble_eq_true rfl)) ?_
              rintro _ _ rfl
              refine WL_val rfl rfl rfl (R_assign rfl rfl) ?_
              refine WL_val rfl rfl rfl (R_assign rfl rfl) ?_
              refine WL_nil ?_
              refine WQ_code ?_
              refine WC_seq ?_
              refine WC_drawR [⟨some b3, _⟩] [(0, true), (1, true), (2, true), (3, true), (4, true), (5, true), (6, true), (7, true), (8, true), (9, true), (10, true), (11, false), (12, true)] followsMixed rfl rfl (by kernel_rfl) (pqY) ?_
              refine WM_val rfl rfl rfl rfl (R_move rfl rfl) ?_
              refine WM_val rfl rfl rfl rfl (R_loadA (vs := [_, _, _]) rfl ag57 rfl (mmY) rfl (atZ)) ?_
              refine WM_val rfl rfl rfl rfl (R_move rfl rfl) ?_
              refine WM_val rfl rfl rfl rfl (R_move rfl rfl) ?_
              refine WM_call rfl (Spec.quiet (same_ok (s.waiting a.at_) (by omega) ob1 c1 tl1 ob2 c2 tl2 own1 own2)) rfl rfl rfl rfl rfl rfl rfl (pqY) ?_
              refine WM_val rfl rfl rfl rfl (R_move rfl rfl) ?_
              refine WM_val rfl rfl rfl rfl (R_move rfl rfl) ?_
              refine WM_val rfl rfl rfl rfl (R_move rfl rfl) ?_
              refine WM_val rfl rfl rfl rfl (R_eql rfl rfl rfl) ?_
              refine WM_set (s := 167) (v := .bool true) rfl (by simp) ?_
              refine WM_val rfl rfl rfl rfl (R_pickT rfl rfl rfl) ?_
              refine WM_val rfl rfl rfl rfl (R_assign rfl rfl) ?_
              refine WM_do0 rfl rfl rfl (D_store (vs := [_, _, _]) rfl Try.sizeOf57 rfl rfl rfl rfl rfl (plY) (by exact Nat.le_of_ble_eq_true rfl)) ?_
              rintro _ _ rfl
              refine ⟨⟨_, pqY⟩, ?_⟩
              refine WM_val rfl rfl rfl rfl (R_assign rfl rfl) ?_
              refine WM_nil ?_
              refine WQ_code ?_
              refine WC_ret ?_
              refine WQ_ret rfl rfl (.cons (.tmp rfl) (.cons (.cell (vs := [_, _, _]) rfl ag57 (mmY) rfl (atZ)) (.cons (.tmp rfl) .nil))) rfl (by
                  exact ⟨_, l', r', rfl, rfl, hl'.mono (by omega), hr', wakeAll_len _ _⟩) (pqY)
            · refine WC_seq ?_
              refine WC_region ?_
              refine WL_val rfl rfl rfl (R_eql rfl rfl rfl) ?_
              refine WL_val rfl rfl rfl (R_assign rfl rfl) ?_
              refine WL_nil ?_
              refine WQ_code ?_
              refine WC_dec rfl (fun c7 => ?_) (fun c7 => ?_)
              · refine WC_seq ?_
                refine WC_region ?_
                refine WL_val rfl rfl rfl (R_move rfl rfl) ?_
                refine WL_val rfl rfl rfl (R_fieldAddr rfl fa48_1 rfl) ?_
                refine WL_val rfl rfl rfl (R_load rfl sc3 rfl (mmY) rfl) ?_
                refine WL_do rfl rfl rfl (D_call (pk_leave N s l hl (by omega) a.task) rfl rfl rfl rfl (pqY)) ?_
                rintro _ _ ⟨_, ⟨l', rfl, rfl, hlp, hl'⟩, rfl⟩
                rw [← hlp]
                refine WL_val rfl rfl rfl (R_move rfl rfl) ?_
                refine WL_val rfl rfl rfl (R_extract rfl rfl rfl) ?_
                refine WL_val rfl rfl rfl (R_extract rfl rfl rfl) ?_
                refine WL_do rfl rfl rfl (D_alloc rfl zv25) ?_
                rintro _ _ ⟨b10, rfl, rfl⟩
                refine WL_do0 rfl rfl (D_store (vs := [_, _]) rfl Try.sizeOf25 rfl rfl rfl rfl rfl (plY) (by exact Nat.le_of_ble_eq_true rfl)) ?_
                rintro _ _ rfl
                refine WL_val rfl rfl rfl (R_assign rfl rfl) ?_
                refine WL_nil ?_
                refine WQ_code ?_
                refine WC_seq ?_
                refine WC_region ?_
                refine WL_val rfl rfl rfl (R_loadA (vs := [_, _, _]) rfl ag57 rfl (mmY) rfl (atZ)) ?_
                refine WL_val rfl rfl rfl (R_fieldAddr rfl fa48_1 rfl) ?_
                refine WL_val rfl rfl rfl (R_load rfl sc3 rfl (mmY) rfl) ?_
                refine WL_do rfl rfl rfl (D_call (rf_leave s r hr hs hroom hl.ps a.task) rfl rfl rfl rfl (pqY)) ?_
                rintro _ _ ⟨_, ⟨r', rfl, rfl, hr'⟩, rfl⟩
                refine WL_val rfl rfl rfl (R_move rfl rfl) ?_
                refine WL_val rfl rfl rfl (R_extract rfl rfl rfl) ?_
                refine WL_val rfl rfl rfl (R_extract rfl rfl rfl) ?_
                refine WL_val rfl rfl rfl (R_extract rfl rfl rfl) ?_
                refine WL_do rfl rfl rfl (D_alloc rfl zv57) ?_
                rintro _ _ ⟨b11, rfl, rfl⟩
                refine WL_do rfl rfl rfl (D_alloc rfl zv25) ?_
                rintro _ _ ⟨b12, rfl, rfl⟩
                refine WL_do0 rfl rfl (D_store (vs := [_, _, _]) rfl Try.sizeOf57 rfl rfl rfl rfl rfl (plY) (by exact Nat.le_of_ble_eq_true rfl)) ?_
                rintro _ _ rfl
                refine WL_do0 rfl rfl (D_store (vs := [_, _]) rfl Try.sizeOf25 rfl rfl rfl rfl rfl (plY) (by exact Nat.le_of_ble_eq_true rfl)) ?_
                rintro _ _ rfl
                refine WL_val rfl rfl rfl (R_assign rfl rfl) ?_
                refine WL_nil ?_
                refine WQ_code ?_
                refine WC_seq ?_
                refine WC_drawR [⟨some b3, _⟩] [(0, true), (1, true), (2, true), (3, true), (4, true), (5, true), (6, true), (7, true), (8, true), (9, true), (10, true), (11, false), (12, true)] followsMixed rfl rfl (by kernel_rfl) (pqY) ?_
                refine WM_val rfl rfl rfl rfl (R_move rfl rfl) ?_
                refine WM_val rfl rfl rfl rfl (R_loadA (vs := [_, _, _]) rfl ag57 rfl (mmY) rfl (atZ)) ?_
                refine WM_val rfl rfl rfl rfl (R_loadA (vs := [_, _]) rfl ag25 rfl (mmY) rfl (atZ)) ?_
                refine WM_val rfl rfl rfl rfl (R_loadA (vs := [_, _]) rfl ag25 rfl (mmY) rfl (atZ)) ?_
                refine WM_val rfl rfl rfl rfl (R_seq25 rfl rfl rfl rfl) ?_
                refine WM_set (s := 190) (v := .bool true) rfl (by simp) ?_
                refine WM_val rfl rfl rfl rfl (R_move rfl rfl) ?_
                refine WM_val rfl rfl rfl rfl (R_move rfl rfl) ?_
                refine WM_val rfl rfl rfl rfl (R_move rfl rfl) ?_
                refine WM_val rfl rfl rfl rfl (R_eql rfl rfl rfl) ?_
                refine WM_set (s := 194) (v := .bool true) rfl (by simp) ?_
                refine WM_val rfl rfl rfl rfl (R_pickT rfl rfl rfl) ?_
                refine WM_val rfl rfl rfl rfl (R_assign rfl rfl) ?_
                refine WM_do0 rfl rfl rfl (D_store (vs := [_, _, _]) rfl Try.sizeOf57 rfl rfl rfl rfl rfl (plY) (by exact Nat.le_of_ble_eq_true rfl)) ?_
                rintro _ _ rfl
                refine ⟨⟨_, pqY⟩, ?_⟩
                refine WM_val rfl rfl rfl rfl (R_assign rfl rfl) ?_
                refine WM_nil ?_
                refine WQ_code ?_
                refine WC_ret ?_
                refine WQ_ret rfl rfl (.cons (.tmp rfl) (.cons (.cell (vs := [_, _, _]) rfl ag57 (mmY) rfl (atZ)) (.cons (.tmp rfl) .nil))) rfl (by
                    exact ⟨_, l', r', rfl, rfl, hl'.mono (by omega), hr', leave_len _ _⟩) (pqY)
              · refine WC_skip ?_
                refine WQ_code ?_
                refine WC_seq ?_
                refine WC_region ?_
                refine WL_val rfl rfl rfl (R_move rfl rfl) ?_
                refine WL_do rfl rfl rfl (D_call (pk_copy N s l hl) rfl rfl rfl rfl (pqY)) ?_
                rintro _ _ ⟨_, ⟨l2, rfl, rfl, hl2⟩, rfl⟩
                refine WL_val rfl rfl rfl (R_assign rfl rfl) ?_
                refine WL_nil ?_
                refine WQ_code ?_
                refine WC_seq ?_
                refine WC_seq ?_
                refine WC_region ?_
                refine WL_val rfl rfl rfl (R_move rfl rfl) ?_
                refine WL_val rfl rfl rfl (R_ptrEqNil rfl Try.underlying28 rfl) ?_
                refine WL_nil ?_
                refine WQ_code ?_
                refine WC_F rfl ?_
                refine WC_skip ?_
                refine WQ_code ?_
                refine WC_seq ?_
                refine WC_region ?_
                refine WL_val rfl rfl rfl (R_move rfl rfl) ?_
                refine WL_val rfl rfl rfl (R_fieldAddr rfl fa48_2 rfl) ?_
                refine WL_val rfl rfl rfl (R_loadA (vs := [_, _]) rfl ag25 rfl (mmY) rfl (atZ)) ?_
                refine WL_do rfl rfl rfl (D_call (pk_wakeall N s l hl (by omega) a.at_) rfl rfl rfl rfl (pqY)) ?_
                rintro _ _ ⟨_, ⟨l3, ob3, c3, tl3, rfl, own3, rfl, hp3, hl3⟩, rfl⟩
                rw [← hp3]
                refine WL_nil ?_
                refine WQ_code ?_
                refine WC_seq ?_
                refine WC_region ?_
                refine WL_val rfl rfl rfl (R_move rfl rfl) ?_
                refine WL_do rfl rfl rfl (D_call (pk_start (N + 64) (s.wakeAll a.at_) l3 hl3 (by omega) 0) rfl rfl rfl rfl (pqY)) ?_
                rintro _ _ ⟨_, ⟨l4, rfl, rfl, hp4, hl4⟩, rfl⟩
                rw [← hp4]
                refine WL_nil ?_
                refine WQ_code ?_
                refine WC_seq ?_
                refine WC_region ?_
                refine WL_val rfl rfl rfl (R_move rfl rfl) ?_
                refine WL_do rfl rfl rfl (D_call (lspot_ok 0 0) rfl rfl rfl rfl (pqY)) ?_
                rintro _ _ ⟨_, ⟨rfl, rfl⟩, rfl⟩
                refine WL_do rfl rfl rfl (D_call (pk_park (N + 64 + 1) _ l4 hl4 (by omega) 0 (0, 0)) rfl rfl rfl rfl (pqY)) ?_
                rintro _ _ ⟨_, ⟨l5, rfl, rfl, hp5, hl5⟩, rfl⟩
                refine WL_nil ?_
                refine WQ_code ?_
                refine WC_seq ?_
                refine WC_drawR [⟨some b3, _⟩] [(0, true), (1, true), (2, true), (3, false), (4, true)] followsMixed rfl rfl (by kernel_rfl) (pqY) ?_
                refine WM_val rfl rfl rfl rfl (R_move rfl rfl) ?_
                refine WM_val rfl rfl rfl rfl (R_loadA (vs := [_, _, _]) rfl ag57 rfl (mmY) rfl (atZ)) ?_
                refine WM_val rfl rfl rfl rfl (R_assign rfl rfl) ?_
                refine WM_do0 rfl rfl rfl (D_store (vs := [_, _, _]) rfl Try.sizeOf57 rfl rfl rfl rfl rfl (plY) (by exact Nat.le_of_ble_eq_true rfl)) ?_
                rintro _ _ rfl
                refine ⟨⟨_, pqY⟩, ?_⟩
                refine WM_val rfl rfl rfl rfl (R_assign rfl rfl) ?_
                refine WM_nil ?_
                refine WQ_code ?_
                refine WC_ret ?_
                refine WQ_ret rfl rfl (.cons (.tmp rfl) (.cons (.cell (vs := [_, _, _]) rfl ag57 (mmY) rfl (atZ)) (.cons (.tmp rfl) .nil))) rfl (by
                    exact ⟨s, l2, r, rfl, rfl, hl2.mono (by omega), hr, rfl⟩) (pqY)
theorem llooks_ok (N : Nat) (s : PS) (l : PkM) (hl : PkIs N s l) (r : RfM) (hr : RfOk s r) (a : Sp) : Spec Try.prog 26 [ptrQ l.p, rfV s r, ekS a] (rfH s r ++ pkH l) (fun v H' => v = .bool true ∧ H' = rfH s r ++ pkH l) := by
  have hs := hl.ps.len
  have hroom := hl.room
  refine Spec.of (E := [(0, ptrQ l.p), (1, rfV s r), (2, ekS a)]) Try.func26 rfl (by kernel_rfl) Try.ntmps26 rfl rfl (fun w => ?_)
  refine WC_seq ?_
  refine WC_region ?_
  refine WL_do rfl rfl rfl (D_box (cs := [_, _, _]) rfl rfl rfl) ?_
  rintro _ _ ⟨b1, rfl, rfl⟩
  refine WL_do rfl rfl rfl (D_box (cs := [_, _]) rfl rfl rfl) ?_
  rintro _ _ ⟨b2, rfl, rfl⟩
  refine WL_val rfl rfl rfl (R_assign rfl rfl) ?_
  refine WL_nil ?_
  refine WQ_code ?_
  refine WC_seq ?_
  refine WC_seq ?_
  refine WC_draw _ [(0, true), (1, true), (2, true), (3, true), (4, true), (5, true), (6, true), (7, true), (8, true), (10, true), (11, true), (12, true), (9, false), (13, false), (14, true), (15, true)] followsMixed rfl rfl (by kernel_rfl) .all ?_
  refine WM_val rfl rfl rfl rfl (R_move rfl rfl) ?_
  refine WM_call rfl (Spec.quiet (pk_len N s l hl)) rfl rfl rfl rfl rfl rfl rfl (pqY) ?_
  refine WM_val rfl rfl rfl rfl (R_fieldAddr rfl fa57_0 rfl) ?_
  refine WM_val rfl rfl rfl rfl (R_fieldAddr rfl fa54_0 rfl) ?_
  refine WM_val rfl rfl rfl rfl (R_load rfl sc32 rfl (mmY) rfl) ?_
  refine WM_val rfl rfl rfl rfl (R_len rfl Try.underlying32 rfl) ?_
  refine WM_val rfl rfl rfl rfl (R_neq rfl rfl rfl) ?_
  refine WM_set (s := 29) (v := .bool false) rfl (by simp) ?_
  refine WM_val rfl rfl rfl rfl (R_move rfl rfl) ?_
  refine WM_val rfl rfl rfl rfl (R_move rfl rfl) ?_
  refine WM_val rfl rfl rfl rfl (R_fieldAddr rfl fa57_0 rfl) ?_
  refine WM_val rfl rfl rfl rfl (R_fieldAddr rfl fa54_1 rfl) ?_
  refine WM_val rfl rfl rfl rfl (R_load rfl sc32 rfl (mmY) rfl) ?_
  refine WM_do rfl rfl rfl rfl (D_call (pk_ready N s l hl) rfl rfl rfl rfl (pqY)) ?_
  rintro _ _ ⟨_, ⟨ob1, cb1, tb1, rfl, own1, rfl⟩, rfl⟩
  refine ⟨⟨_, pqY⟩, ?_⟩
  refine WM_do rfl rfl rfl rfl (D_call (same_ok s.qm (by omega) ob1 cb1 tb1 r.oq r.qc r.tq own1 hr.oq) rfl rfl rfl rfl (pqY)) ?_
  rintro _ _ ⟨_, ⟨rfl, rfl⟩, rfl⟩
  refine ⟨⟨_, pqY⟩, ?_⟩
  refine WM_val rfl rfl rfl rfl (R_not rfl rfl) ?_
  refine WM_val rfl rfl rfl rfl (R_pickF rfl rfl rfl) ?_
  refine WM_nil ?_
  refine WQ_code ?_
  refine WC_F rfl ?_
  refine WC_skip ?_
  refine WQ_code ?_
  refine WC_seq ?_
  refine WC_seq ?_
  refine WC_region ?_
  refine WL_val rfl rfl rfl (R_assign rfl rfl) ?_
  refine WL_nil ?_
  refine WQ_code ?_
  refine WC_block ?_
  refine WC_loopF (G := Nat) [6, 7, 8, 9, 10, 11, 12, 13, 14, 15, 39, 40, 41, 42, 43, 44, 45, 46, 47, 48, 49, 50, 51, 52, 53, 54, 55, 56, 57, 58, 59, 60, 61, 62, 63, 64, 65, 66, 67, 68, 69, 70, 71, 72, 73, 74, 75, 76, 77, 78, 79, 80, 81, 82, 83, 84, 85, 86, 87, 88, 89] (fun j => j ≤ s.sm.length + 2) (fun j => [(7, .int .i64 ((j : Int) - 1))]) (fun j => []) (fun j => s.sm.length + 2 - j) (0) (Nat.zero_le _) leZ (pqY) ?_
  rintro j hj
  refine WC_seq ?_
  refine WC_seq ?_
  refine WC_region ?_
  refine WL_val rfl rfl rfl (R_move rfl rfl) ?_
  refine WL_val rfl rfl rfl (R_fieldAddr rfl fa57_0 rfl) ?_
  refine WL_val rfl rfl rfl (R_fieldAddr rfl fa54_0 rfl) ?_
  refine WL_val rfl rfl rfl (R_load rfl sc32 rfl (mmY) rfl) ?_
  refine WL_val rfl rfl rfl (R_len rfl Try.underlying32 rfl) ?_
  refine WL_val rfl rfl rfl (R_leq rfl rfl rfl) ?_
  refine WL_nil ?_
  refine WQ_code ?_
  refine WC_dec rfl (fun c1 => ?_) (fun c1 => ?_)
  · refine WC_skip ?_
    refine WQ_code ?_
    refine WC_seq ?_
    refine WC_block ?_
    refine WC_seq ?_
    refine WC_region ?_
    refine WL_val rfl rfl rfl (R_move rfl rfl) ?_
    refine WL_val rfl rfl rfl (R_move rfl rfl) ?_
    refine WL_do rfl rfl rfl (D_call (pk_state N s l hl ((j : Int) - 1)) rfl rfl rfl rfl (pqY)) ?_
    rintro _ _ ⟨_, ⟨rfl, rfl⟩, rfl⟩
    refine WL_val rfl rfl rfl (R_move rfl rfl) ?_
    refine WL_val rfl rfl rfl (R_extract rfl rfl rfl) ?_
    refine WL_val rfl rfl rfl (R_extract rfl rfl rfl) ?_
    refine WL_val rfl rfl rfl (R_assign rfl rfl) ?_
    refine WL_val rfl rfl rfl (R_assign rfl rfl) ?_
    refine WL_nil ?_
    refine WQ_code ?_
    refine WC_seq ?_
    refine WC_region ?_
    refine WL_val rfl rfl rfl (R_fieldAddr rfl fa57_0 rfl) ?_
    refine WL_val rfl rfl rfl (R_loadA (vs := [_, _]) rfl ag54 rfl (mmY) rfl (atZ)) ?_
    refine WL_val rfl rfl rfl (R_move rfl rfl) ?_
    refine WL_do rfl rfl rfl (D_call (rstate_ok s.sm s.qm r.os r.sc r.ts r.oq r.qc r.tq hr.os hr.oq ((j : Int) - 1)) rfl rfl rfl rfl (pqY)) ?_
    rintro _ _ ⟨_, ⟨rfl, rfl⟩, rfl⟩
    refine WL_val rfl rfl rfl (R_move rfl rfl) ?_
    refine WL_val rfl rfl rfl (R_extract rfl rfl rfl) ?_
    refine WL_val rfl rfl rfl (R_extract rfl rfl rfl) ?_
    refine WL_val rfl rfl rfl (R_assign rfl rfl) ?_
    refine WL_val rfl rfl rfl (R_assign rfl rfl) ?_
    refine WL_nil ?_
    refine WQ_code ?_
    refine WC_seq ?_
    refine WC_region ?_
    refine WL_val rfl rfl rfl (R_move rfl rfl) ?_
    refine WL_val rfl rfl rfl (R_move rfl rfl) ?_
    refine WL_do rfl rfl rfl (D_call (pk_where N s l hl ((j : Int) - 1)) rfl rfl rfl rfl (pqY)) ?_
    rintro _ _ ⟨_, ⟨rfl, rfl⟩, rfl⟩
    refine WL_val rfl rfl rfl (R_move rfl rfl) ?_
    refine WL_val rfl rfl rfl (R_extract rfl rfl rfl) ?_
    refine WL_val rfl rfl rfl (R_extract rfl rfl rfl) ?_
    refine WL_do rfl rfl rfl (D_alloc rfl zv25) ?_
    rintro _ _ ⟨b3, rfl, rfl⟩
    refine WL_do0 rfl rfl (D_store (vs := [_, _]) rfl Try.sizeOf25 rfl rfl rfl rfl rfl (plY) (by exact Nat.le_of_ble_eq_true rfl)) ?_
    rintro _ _ rfl
    refine WL_val rfl rfl rfl (R_assign rfl rfl) ?_
    refine WL_nil ?_
    refine WQ_code ?_
    refine WC_seq ?_
    refine WC_region ?_
    refine WL_val rfl rfl rfl (R_loadA (vs := [_, _, _]) rfl ag57 rfl (mmY) rfl (atZ)) ?_
    refine WL_val rfl rfl rfl (R_move rfl rfl) ?_
    refine WL_do rfl rfl rfl (D_call (rf_where s r hr hs hroom hl.ps ((j : Int) - 1)) rfl rfl rfl rfl (pqY)) ?_
    rintro _ _ ⟨_, ⟨rfl, rfl⟩, rfl⟩
    refine WL_val rfl rfl rfl (R_move rfl rfl) ?_
    refine WL_val rfl rfl rfl (R_extract rfl rfl rfl) ?_
    refine WL_val rfl rfl rfl (R_extract rfl rfl rfl) ?_
    refine WL_do rfl rfl rfl (D_alloc rfl zv25) ?_
    rintro _ _ ⟨b4, rfl, rfl⟩
    refine WL_do0 rfl rfl (D_store (vs := [_, _]) rfl Try.sizeOf25 rfl rfl rfl rfl rfl (plY) (by exact Nat.le_of_ble_eq_true rfl)) ?_
    rintro _ _ rfl
    refine WL_val rfl rfl rfl (R_assign rfl rfl) ?_
    refine WL_nil ?_
    refine WQ_code ?_
    refine WC_seq ?_
    refine WC_region ?_
    refine WL_val rfl rfl rfl (R_move rfl rfl) ?_
    refine WL_val rfl rfl rfl (R_move rfl rfl) ?_
    refine WL_val rfl rfl rfl (R_neq rfl rfl rfl) ?_
    refine WL_set (s := 74) (v := .bool false) rfl (by simp) ?_
    refine WL_val rfl rfl rfl (R_move rfl rfl) ?_
    refine WL_val rfl rfl rfl (R_move rfl rfl) ?_
    refine WL_val rfl rfl rfl (R_move rfl rfl) ?_
    refine WL_val rfl rfl rfl (R_neq rfl rfl rfl) ?_
    refine WL_set (s := 78) (v := .bool false) rfl (by simp) ?_
    refine WL_val rfl rfl rfl (R_pickF rfl rfl rfl) ?_
    refine WL_val rfl rfl rfl (R_move rfl rfl) ?_
    refine WL_val rfl rfl rfl (R_loadA (vs := [_, _]) rfl ag25 rfl (mmY) rfl (atZ)) ?_
    refine WL_val rfl rfl rfl (R_loadA (vs := [_, _]) rfl ag25 rfl (mmY) rfl (atZ)) ?_
    refine WL_val rfl rfl rfl (R_sne25 rfl rfl rfl rfl) ?_
    refine WL_set (s := 83) (v := .bool false) rfl (by simp) ?_
    refine WL_val rfl rfl rfl (R_pickF rfl rfl rfl) ?_
    refine WL_val rfl rfl rfl (R_move rfl rfl) ?_
    refine WL_val rfl rfl rfl (R_move rfl rfl) ?_
    refine WL_val rfl rfl rfl (R_move rfl rfl) ?_
    refine WL_val rfl rfl rfl (R_neq rfl rfl rfl) ?_
    refine WL_set (s := 88) (v := .bool false) rfl (by simp) ?_
    refine WL_val rfl rfl rfl (R_pickF rfl rfl rfl) ?_
    refine WL_nil ?_
    refine WQ_code ?_
    refine WC_F rfl ?_
    refine WC_skip ?_
    refine WQ_code ?_
    refine WC_region ?_
    refine WL_val rfl rfl rfl (R_move rfl rfl) ?_
    refine WL_val rfl rfl rfl (R_add rfl rfl rfl (by omega)) ?_
    refine WL_val rfl rfl rfl (R_assign rfl rfl) ?_
    refine WL_nil ?_
    refine WQ_nextF (j + 1) (by omega) (by omega) leZ (psZ) rfl (pqY)
  · refine WC_exit ?_
    refine WQ_code ?_
    refine WC_seq ?_
    refine WC_region ?_
    refine WL_val rfl rfl rfl (R_loadA (vs := [_, _]) rfl ag25 rfl (mmY) rfl (atZ)) ?_
    refine WL_val rfl rfl rfl (R_build rfl zv100 pl100 rfl rfl) ?_
    refine WL_do rfl rfl rfl (D_buildSlice rfl si55 rfl rfl rfl) ?_
    rintro _ _ ⟨b5, rfl, rfl⟩
    refine WL_val rfl rfl rfl (R_fieldAddr rfl fa57_1 rfl) ?_
    refine WL_val rfl rfl rfl (R_load rfl sc55 rfl (mmY) rfl) ?_
    refine WL_do rfl rfl rfl (D_appendO rfl si55 rfl (⟨rfl, rfl, by decide, by decide, fun h => by cases h⟩ : Own (some b5) 1 1 3 [.int .i64 ((0 : Nat) : Int), .int .i64 a.1, .int .i64 a.2] []) (plY) rfl hr.ow (mmY) (encWt_one _) (by omega) (by omega)) ?_
    rintro _ _ ⟨ob9, cap9, tl9, rfl, own9, rfl⟩
    obtain ⟨b9, rfl⟩ := own9.some_of (by omega)
    rw [show [Value.int .i64 ((0 : Nat) : Int), .int .i64 a.1, .int .i64 a.2] ++ s.W.flatMap encWt = ((⟨0, a⟩ : Wt) :: s.W).flatMap encWt from rfl] at own9 ⊢
    refine WL_val rfl rfl rfl (R_assign rfl rfl) ?_
    refine WL_nil ?_
    refine WQ_code ?_
    refine WC_seq ?_
    refine WC_seq ?_
    refine WC_region ?_
    refine WL_val rfl rfl rfl (R_move rfl rfl) ?_
    refine WL_val rfl rfl rfl (R_len rfl Try.underlying55 rfl) ?_
    refine WL_val rfl rfl rfl (R_move rfl rfl) ?_
    refine WL_nil ?_
    refine WQ_code ?_
    refine WC_block ?_
    refine WC_loopF (G := Nat) [6, 18, 19, 20, 21, 22, 98, 99, 100, 101, 102, 103, 104, 105, 106, 107, 108, 109, 110, 111, 112, 113, 114, 115, 116, 117, 118, 119, 120, 121, 122, 123, 124, 125] (fun j => j ≤ 1 + s.W.length) (fun j => [(98, .int .i64 (j : Int))]) (fun j => []) (fun j => 1 + s.W.length - j) (0) (Nat.zero_le _) leZ (pqY) ?_
    rintro j hj
    refine WC_seq ?_
    refine WC_region ?_
    refine WL_val rfl rfl rfl (R_lss rfl rfl rfl) ?_
    refine WL_nil ?_
    refine WQ_code ?_
    refine WC_seq ?_
    refine WC_dec rfl (fun c2 => ?_) (fun c2 => ?_)
    · refine WC_skip ?_
      refine WQ_code ?_
      refine WC_seq ?_
      refine WC_block ?_
      refine WC_seq ?_
      refine WC_region ?_
      obtain ⟨z, hx⟩ := exE (T := (⟨0, a⟩ : Wt) :: s.W) (i := j) (by rw [List.length_cons]; omega)
      refine WL_val rfl rfl rfl (R_indexAddrN rfl Try.underlying55 Try.sizeOf100 rfl rfl (by omega)) ?_
      refine WL_val rfl rfl rfl (R_loadA (vs := encWt z) rfl ag100 rfl (mmY) rfl (fm_at0 encWt3 hx (j := 0) (vs := encWt z) (fun j v h => by rw [Nat.zero_add]; exact h) (Nat.le_refl 3))) ?_
      refine WL_do rfl rfl rfl (D_alloc rfl zv100) ?_
      rintro _ _ ⟨b6, rfl, rfl⟩
      refine WL_do0 rfl rfl (D_store (vs := [_, _, _]) rfl Try.sizeOf100 rfl rfl rfl rfl rfl (plY) (by exact Nat.le_of_ble_eq_true rfl)) ?_
      rintro _ _ rfl
      refine WL_nil ?_
      refine WQ_code ?_
      refine WC_seq ?_
      refine WC_region ?_
      refine WL_val rfl rfl rfl (R_move rfl rfl) ?_
      refine WL_val rfl rfl rfl (R_fieldAddr rfl fa100_1 rfl) ?_
      refine WL_val rfl rfl rfl (R_loadA (vs := [_, _]) rfl ag25 rfl (mmY) rfl (atZ)) ?_
      refine WL_do rfl rfl rfl (D_call (pk_waiting N s l hl z.at_) rfl rfl rfl rfl (pqY)) ?_
      rintro _ _ ⟨_, ⟨ob2, cb2, tb2, rfl, own2, rfl⟩, rfl⟩
      refine WL_val rfl rfl rfl (R_move rfl rfl) ?_
      refine WL_val rfl rfl rfl (R_extract rfl rfl rfl) ?_
      refine WL_val rfl rfl rfl (R_extract rfl rfl rfl) ?_
      refine WL_val rfl rfl rfl (R_assign rfl rfl) ?_
      refine WL_val rfl rfl rfl (R_assign rfl rfl) ?_
      refine WL_nil ?_
      refine WQ_code ?_
      refine WC_seq ?_
      refine WC_region ?_
      refine WL_val rfl rfl rfl (R_loadA (vs := [_, _, _]) rfl ag57 rfl (mmY) rfl (atZ)) ?_
      refine WL_val rfl rfl rfl (R_fieldAddr rfl fa100_1 rfl) ?_
      refine WL_val rfl rfl rfl (R_loadA (vs := [_, _]) rfl ag25 rfl (mmY) rfl (atZ)) ?_
      refine WL_do rfl rfl rfl (D_call (rf_waiting s r hr hs hroom z.at_) rfl rfl rfl rfl (pqY)) ?_
      rintro _ _ ⟨_, ⟨ob3, cb3, tb3, rfl, own3, rfl⟩, rfl⟩
      refine WL_val rfl rfl rfl (R_move rfl rfl) ?_
      refine WL_val rfl rfl rfl (R_extract rfl rfl rfl) ?_
      refine WL_val rfl rfl rfl (R_extract rfl rfl rfl) ?_
      refine WL_val rfl rfl rfl (R_assign rfl rfl) ?_
      refine WL_val rfl rfl rfl (R_assign rfl rfl) ?_
      refine WL_nil ?_
      refine WQ_code ?_
      refine WC_seq ?_
      refine WC_region ?_
      refine WL_val rfl rfl rfl (R_move rfl rfl) ?_
      refine WL_val rfl rfl rfl (R_move rfl rfl) ?_
      refine WL_do rfl rfl rfl (D_call (same_ok (s.waiting z.at_) (by have := waiting_len hl.ps z.at_; omega) ob2 cb2 tb2 ob3 cb3 tb3 own2 own3) rfl rfl rfl rfl (pqY)) ?_
      rintro _ _ ⟨_, ⟨rfl, rfl⟩, rfl⟩
      refine WL_val rfl rfl rfl (R_not rfl rfl) ?_
      refine WL_val rfl rfl rfl (R_move rfl rfl) ?_
      refine WL_val rfl rfl rfl (R_move rfl rfl) ?_
      refine WL_val rfl rfl rfl (R_move rfl rfl) ?_
      refine WL_val rfl rfl rfl (R_neq rfl rfl rfl) ?_
      refine WL_set (s := 123) (v := .bool false) rfl (by simp) ?_
      refine WL_val rfl rfl rfl (R_pickF rfl rfl rfl) ?_
      refine WL_nil ?_
      refine WQ_code ?_
      refine WC_F rfl ?_
      refine WC_skip ?_
      refine WQ_code ?_
      refine WC_region ?_
      refine WL_val rfl rfl rfl (R_add rfl rfl rfl (by omega)) ?_
      refine WL_val rfl rfl rfl (R_move rfl rfl) ?_
      refine WL_nil ?_
      refine WQ_nextF (j + 1) (by omega) (by omega) leZ (psZ) rfl (pqY)
    · refine WC_exit ?_
      refine WQ_code ?_
      refine WC_seq ?_
      refine WC_region ?_
      refine WL_val rfl rfl rfl (R_assign rfl rfl) ?_
      refine WL_nil ?_
      refine WQ_code ?_
      refine WC_ret ?_
      refine WQ_ret rfl rfl (.cons (.tmp rfl) .nil) rfl (by
          exact ⟨rfl, rfl⟩) (pqY)

end Go.Proofs.Ytljmeemgjbcgeaa
