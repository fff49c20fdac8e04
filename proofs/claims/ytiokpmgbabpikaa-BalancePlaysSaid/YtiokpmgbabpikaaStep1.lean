/-
  Chapter 48 (balance), part Step1: contracts of functions that the laws call, each for the heap it names.
-/
import Derived.Test.YtiokpmgbabpikaaRows
import Derived.Test.YtiokpmgbabpikaaZSLOpt
import Derived.Test.YtiokpmgbabpikaaTab
import Derived.Test.YtiokpmgbabpikaaStepM
import Derived.Test.YtiokpmgbabpikaaKnown
set_option linter.unusedVariables false
set_option maxRecDepth 20000
set_option maxHeartbeats 4000000
namespace Go.Proofs.Ytiokpmgbabpikaa


theorem lchoose_ok (m : Lm) (N : Nat) (hm : LmIs N m) (hN : N ≤ 9000) (hk4 : 1 ≤ m.kd ∧ m.kd ≤ 4) (hw : ∀ x ∈ m.L, 1 ≤ x.w ∧ x.w ≤ 100) (ha : ∀ x ∈ m.L, -(N : Int) ≤ x.act ∧ x.act ≤ N) (now b0 : Nat) (key : ByteArray) (hkey : key.size ≤ 64) : Spec Try.prog 27 [lmV m, .slice (some ⟨b0, 0, none⟩) m.n m.n, .string key] [⟨some b0, cl (arrV m.n (fun i => Value.bool (okAt m.L now i))) 4⟩, lH1 m] (fun r H' => ∃ lo2 lc2 lt2, r = .tuple #[lmV { m with lo := lo2, lc := lc2, tl := lt2, L := chL m.kd m.L m.nx key (cand m.L now), nx := chN m.kd m.n m.nx (cand m.L now) }, .int .i64 (chI m.kd m.L m.nx key (cand m.L now))] ∧ H' = [lH1 { m with lo := lo2, lc := lc2, tl := lt2, L := chL m.kd m.L m.nx key (cand m.L now), nx := chN m.kd m.n m.nx (cand m.L now) }, lH1 m] ∧ Own (some lo2) m.n lc2 5 ((chL m.kd m.L m.nx key (cand m.L now)).flatMap encLB) lt2) := by
  by_cases hk : m.kd = 1
  · exact lchoose_turn m N hm hk now b0 key
  · exact lchoose_best m N hm hN hk hk4 hw ha now b0 key hkey
theorem st_long {N : Nat} {m : Bm} {s : BS} {l : Lm} (hb : BIs N m s) (hl : LmIs N l) (hr : Rel s l) (hN : N ≤ 8000) (wt n : Int) (now : Nat) (key : ByteArray) (good : Bool) (h0 : wt = 0) (hk : 64 < key.size) : Spec Try.prog 15 [ptrB m.p, lmV l, .agg #[.int .i64 wt, .int .i64 n, .int .u64 (now : Int), .string key, .bool good]] (balH m ++ lmH l) (fun r H' => ∃ m2 s2 l2, r = .tuple #[ptrB m2.p, lmV l2, .bool true] ∧ H' = balH m2 ++ lmH l2 ∧ BIs (N + 1) m2 s2 ∧ LmIs (N + 1) l2 ∧ Rel s2 l2) := by
  have hmay : mayB m (decide ((key.size : Int) ≤ 64)) now = 2 := by unfold mayB; rw [if_pos (decide_eq_false (by omega))]
  refine Spec.of (E := [(0, ptrB m.p), (1, lmV l), (2, .agg #[.int .i64 wt, .int .i64 n, .int .u64 (now : Int), .string key, .bool good])]) Try.func15 rfl (by kernel_rfl) Try.ntmps15 rfl rfl (fun w => ?_)
  refine WC_seq ?_
  refine WC_region ?_
  refine WL_do rfl rfl rfl (D_box (cs := [_, _, _, _, _, _]) rfl rfl rfl) ?_
  rintro _ _ ⟨b1, rfl, rfl⟩
  refine WL_do rfl rfl rfl (D_box (cs := [_, _, _, _, _]) rfl rfl rfl) ?_
  rintro _ _ ⟨b2, rfl, rfl⟩
  refine WL_val rfl rfl rfl (R_assign rfl rfl) ?_
  refine WL_do rfl rfl rfl (D_alloc rfl zv45) ?_
  rintro _ _ ⟨b3, rfl, rfl⟩
  refine WL_val rfl rfl rfl (R_assign rfl rfl) ?_
  refine WL_nil ?_
  refine WQ_code ?_
  refine WC_seq ?_
  refine WC_region ?_
  refine WL_val rfl rfl rfl (R_fieldAddr rfl fa48_2 rfl) ?_
  refine WL_val rfl rfl rfl (R_load rfl sc30 rfl (mmY) rfl) ?_
  refine WL_val rfl rfl rfl (R_fieldAddr rfl fa45_5 rfl) ?_
  refine WL_val rfl rfl rfl (R_load rfl sc30 rfl (mmY) rfl) ?_
  refine WL_val rfl rfl rfl (R_lss rfl rfl rfl) ?_
  refine WL_val rfl rfl rfl (R_move rfl rfl) ?_
  refine WL_splitD (s := 26) rfl (fun c1 => ?_) (fun c1 => ?_)
  · refine WL_skip rfl rfl rfl ?_
    refine WL_skip rfl rfl rfl ?_
    refine WL_skip rfl rfl rfl ?_
    refine WL_val rfl rfl rfl (R_pickT rfl rfl rfl) ?_
    refine WL_val rfl rfl rfl (R_assign rfl rfl) ?_
    refine WL_nil ?_
    refine WQ_code ?_
    refine WC_seq ?_
    refine WC_seq ?_
    refine WC_region ?_
    refine WL_val rfl rfl rfl (R_fieldAddr rfl fa48_0 rfl) ?_
    refine WL_val rfl rfl rfl (R_load rfl sc3 rfl (mmY) rfl) ?_
    refine WL_nil ?_
    refine WQ_code ?_
    refine WC_block ?_
    refine WC_seq ?_
    refine WC_region ?_
    refine WL_val rfl rfl rfl (R_eql rfl rfl rfl) ?_
    refine WL_val rfl rfl rfl (R_assign rfl rfl) ?_
    refine WL_nil ?_
    refine WQ_code ?_
    refine WC_dT rfl (by exact h0) ?_
    refine WC_seq ?_
    refine WC_region ?_
    refine WL_val rfl rfl rfl (R_move rfl rfl) ?_
    refine WL_val rfl rfl rfl (R_fieldAddr rfl fa48_2 rfl) ?_
    refine WL_val rfl rfl rfl (R_load rfl sc30 rfl (mmY) rfl) ?_
    refine WL_val rfl rfl rfl (R_fieldAddr rfl fa48_3 rfl) ?_
    refine WL_val rfl rfl rfl (R_load rfl sc9 rfl (mmY) rfl) ?_
    refine WL_do rfl rfl rfl (D_call (bpick_bad m now key (by rw [hmay]; decide)) rfl rfl rfl rfl (pqY)) ?_
    rintro _ _ ⟨_, ⟨rfl, rfl⟩, rfl⟩
    rw [hmay]
    refine WL_val rfl rfl rfl (R_move rfl rfl) ?_
    refine WL_val rfl rfl rfl (R_extract rfl rfl rfl) ?_
    refine WL_val rfl rfl rfl (R_extract rfl rfl rfl) ?_
    refine WL_do rfl rfl rfl (D_alloc rfl zv36) ?_
    rintro _ _ ⟨b4, rfl, rfl⟩
    refine WL_do0 rfl rfl (D_store (vs := [_, _]) rfl Try.sizeOf36 rfl rfl rfl rfl rfl (plY) (by exact Nat.le_of_ble_eq_true rfl)) ?_
    rintro _ _ rfl
    refine WL_val rfl rfl rfl (R_assign rfl rfl) ?_
    refine WL_nil ?_
    refine WQ_code ?_
    refine WC_seq ?_
    refine WC_seq ?_
    refine WC_region ?_
    refine WL_val rfl rfl rfl (R_fieldAddr rfl fa48_3 rfl) ?_
    refine WL_val rfl rfl rfl (R_load rfl sc9 rfl (mmY) rfl) ?_
    refine WL_val rfl rfl rfl (R_lenStr rfl Try.underlying9 rfl) ?_
    refine WL_val rfl rfl rfl (R_gtr rfl rfl rfl) ?_
    refine WL_nil ?_
    refine WQ_code ?_
    refine WC_dT rfl (by omega) ?_
    refine WC_seq ?_
    refine WC_drawR [⟨some b3, _⟩] [(0, true), (1, true), (2, true), (3, true), (4, true), (5, true), (6, true), (7, true), (8, true), (9, true), (10, false), (11, true)] followsMixed rfl rfl (by kernel_rfl) (pqY) ?_
    refine WM_val rfl rfl rfl rfl (R_move rfl rfl) ?_
    refine WM_val rfl rfl rfl rfl (R_loadA (vs := [_, _, _, _, _, _]) rfl ag45 rfl (mmY) rfl (atZ)) ?_
    refine WM_val rfl rfl rfl rfl (R_loadA (vs := [_, _]) rfl ag36 rfl (mmY) rfl (atZ)) ?_
    refine WM_val rfl rfl rfl rfl (R_build rfl zv36 pl36 rfl rfl) ?_
    refine WM_val rfl rfl rfl rfl (R_seq36 rfl rfl rfl rfl) ?_
    refine WM_set (s := 52) (v := .bool true) rfl (by simp) ?_
    refine WM_val rfl rfl rfl rfl (R_move rfl rfl) ?_
    refine WM_val rfl rfl rfl rfl (R_move rfl rfl) ?_
    refine WM_val rfl rfl rfl rfl (R_eql rfl rfl rfl) ?_
    refine WM_set (s := 55) (v := .bool true) rfl (by simp) ?_
    refine WM_val rfl rfl rfl rfl (R_pickT rfl rfl rfl) ?_
    refine WM_val rfl rfl rfl rfl (R_assign rfl rfl) ?_
    refine WM_do0 rfl rfl rfl (D_store (vs := [_, _, _, _, _, _]) rfl Try.sizeOf45 rfl rfl rfl rfl rfl (plY) (by exact Nat.le_of_ble_eq_true rfl)) ?_
    rintro _ _ rfl
    refine ⟨⟨_, pqY⟩, ?_⟩
    refine WM_val rfl rfl rfl rfl (R_assign rfl rfl) ?_
    refine WM_nil ?_
    refine WQ_code ?_
    refine WC_ret ?_
    refine WQ_ret rfl rfl (.cons (.tmp rfl) (.cons (.cell (vs := [_, _, _, _, _, _]) rfl ag45 (mmY) rfl (atZ)) (.cons (.tmp rfl) .nil))) rfl (by
        exact ⟨m, s, l, rfl, rfl, hb.le (Nat.le_succ N), hl.le (Nat.le_succ N), hr⟩) (pqY)
  · refine WL_val rfl rfl rfl (R_fieldAddr rfl fa48_2 rfl) ?_
    refine WL_val rfl rfl rfl (R_load rfl sc30 rfl (mmY) rfl) ?_
    refine WL_val rfl rfl rfl (R_eql rfl rfl rfl) ?_
    refine WL_val rfl rfl rfl (R_pickF rfl rfl rfl) ?_
    refine WL_val rfl rfl rfl (R_assign rfl rfl) ?_
    refine WL_nil ?_
    refine WQ_code ?_
    refine WC_seq ?_
    refine WC_seq ?_
    refine WC_region ?_
    refine WL_val rfl rfl rfl (R_fieldAddr rfl fa48_0 rfl) ?_
    refine WL_val rfl rfl rfl (R_load rfl sc3 rfl (mmY) rfl) ?_
    refine WL_nil ?_
    refine WQ_code ?_
    refine WC_block ?_
    refine WC_seq ?_
    refine WC_region ?_
    refine WL_val rfl rfl rfl (R_eql rfl rfl rfl) ?_
    refine WL_val rfl rfl rfl (R_assign rfl rfl) ?_
    refine WL_nil ?_
    refine WQ_code ?_
    refine WC_dT rfl (by exact h0) ?_
    refine WC_seq ?_
    refine WC_region ?_
    refine WL_val rfl rfl rfl (R_move rfl rfl) ?_
    refine WL_val rfl rfl rfl (R_fieldAddr rfl fa48_2 rfl) ?_
    refine WL_val rfl rfl rfl (R_load rfl sc30 rfl (mmY) rfl) ?_
    refine WL_val rfl rfl rfl (R_fieldAddr rfl fa48_3 rfl) ?_
    refine WL_val rfl rfl rfl (R_load rfl sc9 rfl (mmY) rfl) ?_
    refine WL_do rfl rfl rfl (D_call (bpick_bad m now key (by rw [hmay]; decide)) rfl rfl rfl rfl (pqY)) ?_
    rintro _ _ ⟨_, ⟨rfl, rfl⟩, rfl⟩
    rw [hmay]
    refine WL_val rfl rfl rfl (R_move rfl rfl) ?_
    refine WL_val rfl rfl rfl (R_extract rfl rfl rfl) ?_
    refine WL_val rfl rfl rfl (R_extract rfl rfl rfl) ?_
    refine WL_do rfl rfl rfl (D_alloc rfl zv36) ?_
    rintro _ _ ⟨b5, rfl, rfl⟩
    refine WL_do0 rfl rfl (D_store (vs := [_, _]) rfl Try.sizeOf36 rfl rfl rfl rfl rfl (plY) (by exact Nat.le_of_ble_eq_true rfl)) ?_
    rintro _ _ rfl
    refine WL_val rfl rfl rfl (R_assign rfl rfl) ?_
    refine WL_nil ?_
    refine WQ_code ?_
    refine WC_seq ?_
    refine WC_seq ?_
    refine WC_region ?_
    refine WL_val rfl rfl rfl (R_fieldAddr rfl fa48_3 rfl) ?_
    refine WL_val rfl rfl rfl (R_load rfl sc9 rfl (mmY) rfl) ?_
    refine WL_val rfl rfl rfl (R_lenStr rfl Try.underlying9 rfl) ?_
    refine WL_val rfl rfl rfl (R_gtr rfl rfl rfl) ?_
    refine WL_nil ?_
    refine WQ_code ?_
    refine WC_dT rfl (by omega) ?_
    refine WC_seq ?_
    refine WC_drawR [⟨some b3, _⟩] [(0, true), (1, true), (2, true), (3, true), (4, true), (5, true), (6, true), (7, true), (8, true), (9, true), (10, false), (11, true)] followsMixed rfl rfl (by kernel_rfl) (pqY) ?_
    refine WM_val rfl rfl rfl rfl (R_move rfl rfl) ?_
    refine WM_val rfl rfl rfl rfl (R_loadA (vs := [_, _, _, _, _, _]) rfl ag45 rfl (mmY) rfl (atZ)) ?_
    refine WM_val rfl rfl rfl rfl (R_loadA (vs := [_, _]) rfl ag36 rfl (mmY) rfl (atZ)) ?_
    refine WM_val rfl rfl rfl rfl (R_build rfl zv36 pl36 rfl rfl) ?_
    refine WM_val rfl rfl rfl rfl (R_seq36 rfl rfl rfl rfl) ?_
    refine WM_set (s := 52) (v := .bool true) rfl (by simp) ?_
    refine WM_val rfl rfl rfl rfl (R_move rfl rfl) ?_
    refine WM_val rfl rfl rfl rfl (R_move rfl rfl) ?_
    refine WM_val rfl rfl rfl rfl (R_eql rfl rfl rfl) ?_
    refine WM_set (s := 55) (v := .bool true) rfl (by simp) ?_
    refine WM_val rfl rfl rfl rfl (R_pickT rfl rfl rfl) ?_
    refine WM_val rfl rfl rfl rfl (R_assign rfl rfl) ?_
    refine WM_do0 rfl rfl rfl (D_store (vs := [_, _, _, _, _, _]) rfl Try.sizeOf45 rfl rfl rfl rfl rfl (plY) (by exact Nat.le_of_ble_eq_true rfl)) ?_
    rintro _ _ rfl
    refine ⟨⟨_, pqY⟩, ?_⟩
    refine WM_val rfl rfl rfl rfl (R_assign rfl rfl) ?_
    refine WM_nil ?_
    refine WQ_code ?_
    refine WC_ret ?_
    refine WQ_ret rfl rfl (.cons (.tmp rfl) (.cons (.cell (vs := [_, _, _, _, _, _]) rfl ag45 (mmY) rfl (atZ)) (.cons (.tmp rfl) .nil))) rfl (by
        exact ⟨m, s, l, rfl, rfl, hb.le (Nat.le_succ N), hl.le (Nat.le_succ N), hr⟩) (pqY)
theorem st_late0 {N : Nat} {m : Bm} {s : BS} {l : Lm} (hb : BIs N m s) (hl : LmIs N l) (hr : Rel s l) (hN : N ≤ 8000) (wt n : Int) (now : Nat) (key : ByteArray) (good : Bool) (h2 : now ≤ 18446744073709551615) (hlate : now < l.last ∨ now = 18446744073709551615) (h0 : wt = 0) (hk : key.size ≤ 64) : Spec Try.prog 15 [ptrB m.p, lmV l, .agg #[.int .i64 wt, .int .i64 n, .int .u64 (now : Int), .string key, .bool good]] (balH m ++ lmH l) (fun r H' => ∃ m2 s2 l2, r = .tuple #[ptrB m2.p, lmV l2, .bool true] ∧ H' = balH m2 ++ lmH l2 ∧ BIs (N + 1) m2 s2 ∧ LmIs (N + 1) l2 ∧ Rel s2 l2) := by
  have hml : m.last = l.last := hb.last.trans hr.last.symm
  have hsl : s.last = l.last := hr.last.symm
  have hln : l.n = s.V.length := by rw [← hl.hn, cq_len (hr.to hb), hb.is.hn]; exact hb.len
  have hnn := hl.n
  have hgv : s.gv = l.gv := hr.gv.symm
  have hglv := hl.gv
  have hcll := hl.cl
  have hmay : mayB m (decide ((key.size : Int) ≤ 64)) now = 3 := by unfold mayB; rw [if_neg (by rw [decide_eq_false_iff_not]; omega), if_pos (by omega)]
  refine Spec.of (E := [(0, ptrB m.p), (1, lmV l), (2, .agg #[.int .i64 wt, .int .i64 n, .int .u64 (now : Int), .string key, .bool good])]) Try.func15 rfl (by kernel_rfl) Try.ntmps15 rfl rfl (fun w => ?_)
  refine WC_seq ?_
  refine WC_region ?_
  refine WL_do rfl rfl rfl (D_box (cs := [_, _, _, _, _, _]) rfl rfl rfl) ?_
  rintro _ _ ⟨b1, rfl, rfl⟩
  refine WL_do rfl rfl rfl (D_box (cs := [_, _, _, _, _]) rfl rfl rfl) ?_
  rintro _ _ ⟨b2, rfl, rfl⟩
  refine WL_val rfl rfl rfl (R_assign rfl rfl) ?_
  refine WL_do rfl rfl rfl (D_alloc rfl zv45) ?_
  rintro _ _ ⟨b3, rfl, rfl⟩
  refine WL_val rfl rfl rfl (R_assign rfl rfl) ?_
  refine WL_nil ?_
  refine WQ_code ?_
  refine WC_seq ?_
  refine WC_region ?_
  refine WL_val rfl rfl rfl (R_fieldAddr rfl fa48_2 rfl) ?_
  refine WL_val rfl rfl rfl (R_load rfl sc30 rfl (mmY) rfl) ?_
  refine WL_val rfl rfl rfl (R_fieldAddr rfl fa45_5 rfl) ?_
  refine WL_val rfl rfl rfl (R_load rfl sc30 rfl (mmY) rfl) ?_
  refine WL_val rfl rfl rfl (R_lss rfl rfl rfl) ?_
  refine WL_val rfl rfl rfl (R_move rfl rfl) ?_
  refine WL_splitD (s := 26) rfl (fun c1 => ?_) (fun c1 => ?_)
  · refine WL_skip rfl rfl rfl ?_
    refine WL_skip rfl rfl rfl ?_
    refine WL_skip rfl rfl rfl ?_
    refine WL_val rfl rfl rfl (R_pickT rfl rfl rfl) ?_
    refine WL_val rfl rfl rfl (R_assign rfl rfl) ?_
    refine WL_nil ?_
    refine WQ_code ?_
    refine WC_seq ?_
    refine WC_seq ?_
    refine WC_region ?_
    refine WL_val rfl rfl rfl (R_fieldAddr rfl fa48_0 rfl) ?_
    refine WL_val rfl rfl rfl (R_load rfl sc3 rfl (mmY) rfl) ?_
    refine WL_nil ?_
    refine WQ_code ?_
    refine WC_block ?_
    refine WC_seq ?_
    refine WC_region ?_
    refine WL_val rfl rfl rfl (R_eql rfl rfl rfl) ?_
    refine WL_val rfl rfl rfl (R_assign rfl rfl) ?_
    refine WL_nil ?_
    refine WQ_code ?_
    refine WC_dT rfl (by exact h0) ?_
    refine WC_seq ?_
    refine WC_region ?_
    refine WL_val rfl rfl rfl (R_move rfl rfl) ?_
    refine WL_val rfl rfl rfl (R_fieldAddr rfl fa48_2 rfl) ?_
    refine WL_val rfl rfl rfl (R_load rfl sc30 rfl (mmY) rfl) ?_
    refine WL_val rfl rfl rfl (R_fieldAddr rfl fa48_3 rfl) ?_
    refine WL_val rfl rfl rfl (R_load rfl sc9 rfl (mmY) rfl) ?_
    refine WL_do rfl rfl rfl (D_call (bpick_bad m now key (by rw [hmay]; decide)) rfl rfl rfl rfl (pqY)) ?_
    rintro _ _ ⟨_, ⟨rfl, rfl⟩, rfl⟩
    rw [hmay]
    refine WL_val rfl rfl rfl (R_move rfl rfl) ?_
    refine WL_val rfl rfl rfl (R_extract rfl rfl rfl) ?_
    refine WL_val rfl rfl rfl (R_extract rfl rfl rfl) ?_
    refine WL_do rfl rfl rfl (D_alloc rfl zv36) ?_
    rintro _ _ ⟨b4, rfl, rfl⟩
    refine WL_do0 rfl rfl (D_store (vs := [_, _]) rfl Try.sizeOf36 rfl rfl rfl rfl rfl (plY) (by exact Nat.le_of_ble_eq_true rfl)) ?_
    rintro _ _ rfl
    refine WL_val rfl rfl rfl (R_assign rfl rfl) ?_
    refine WL_nil ?_
    refine WQ_code ?_
    refine WC_seq ?_
    refine WC_seq ?_
    refine WC_region ?_
    refine WL_val rfl rfl rfl (R_fieldAddr rfl fa48_3 rfl) ?_
    refine WL_val rfl rfl rfl (R_load rfl sc9 rfl (mmY) rfl) ?_
    refine WL_val rfl rfl rfl (R_lenStr rfl Try.underlying9 rfl) ?_
    refine WL_val rfl rfl rfl (R_gtr rfl rfl rfl) ?_
    refine WL_nil ?_
    refine WQ_code ?_
    refine WC_dF rfl (by omega) ?_
    refine WC_skip ?_
    refine WQ_code ?_
    refine WC_seq ?_
    refine WC_seq ?_
    refine WC_region ?_
    refine WL_val rfl rfl rfl (R_move rfl rfl) ?_
    refine WL_nil ?_
    refine WQ_code ?_
    refine WC_T rfl ?_
    refine WC_seq ?_
    refine WC_drawR [⟨some b3, _⟩] [(0, true), (1, true), (2, true), (3, true), (4, true), (5, true), (6, true), (7, true), (8, true), (9, true), (10, false), (11, true)] followsMixed rfl rfl (by kernel_rfl) (pqY) ?_
    refine WM_val rfl rfl rfl rfl (R_move rfl rfl) ?_
    refine WM_val rfl rfl rfl rfl (R_loadA (vs := [_, _, _, _, _, _]) rfl ag45 rfl (mmY) rfl (atZ)) ?_
    refine WM_val rfl rfl rfl rfl (R_loadA (vs := [_, _]) rfl ag36 rfl (mmY) rfl (atZ)) ?_
    refine WM_val rfl rfl rfl rfl (R_build rfl zv36 pl36 rfl rfl) ?_
    refine WM_val rfl rfl rfl rfl (R_seq36 rfl rfl rfl rfl) ?_
    refine WM_set (s := 62) (v := .bool true) rfl (by simp) ?_
    refine WM_val rfl rfl rfl rfl (R_move rfl rfl) ?_
    refine WM_val rfl rfl rfl rfl (R_move rfl rfl) ?_
    refine WM_val rfl rfl rfl rfl (R_eql rfl rfl rfl) ?_
    refine WM_set (s := 65) (v := .bool true) rfl (by simp) ?_
    refine WM_val rfl rfl rfl rfl (R_pickT rfl rfl rfl) ?_
    refine WM_val rfl rfl rfl rfl (R_assign rfl rfl) ?_
    refine WM_do0 rfl rfl rfl (D_store (vs := [_, _, _, _, _, _]) rfl Try.sizeOf45 rfl rfl rfl rfl rfl (plY) (by exact Nat.le_of_ble_eq_true rfl)) ?_
    rintro _ _ rfl
    refine ⟨⟨_, pqY⟩, ?_⟩
    refine WM_val rfl rfl rfl rfl (R_assign rfl rfl) ?_
    refine WM_nil ?_
    refine WQ_code ?_
    refine WC_ret ?_
    refine WQ_ret rfl rfl (.cons (.tmp rfl) (.cons (.cell (vs := [_, _, _, _, _, _]) rfl ag45 (mmY) rfl (atZ)) (.cons (.tmp rfl) .nil))) rfl (by
        exact ⟨m, s, l, rfl, rfl, hb.le (Nat.le_succ N), hl.le (Nat.le_succ N), hr⟩) (pqY)
  · refine WL_val rfl rfl rfl (R_fieldAddr rfl fa48_2 rfl) ?_
    refine WL_val rfl rfl rfl (R_load rfl sc30 rfl (mmY) rfl) ?_
    refine WL_val rfl rfl rfl (R_eql rfl rfl rfl) ?_
    refine WL_val rfl rfl rfl (R_pickF rfl rfl rfl) ?_
    refine WL_val rfl rfl rfl (R_assign rfl rfl) ?_
    refine WL_nil ?_
    refine WQ_code ?_
    refine WC_seq ?_
    refine WC_seq ?_
    refine WC_region ?_
    refine WL_val rfl rfl rfl (R_fieldAddr rfl fa48_0 rfl) ?_
    refine WL_val rfl rfl rfl (R_load rfl sc3 rfl (mmY) rfl) ?_
    refine WL_nil ?_
    refine WQ_code ?_
    refine WC_block ?_
    refine WC_seq ?_
    refine WC_region ?_
    refine WL_val rfl rfl rfl (R_eql rfl rfl rfl) ?_
    refine WL_val rfl rfl rfl (R_assign rfl rfl) ?_
    refine WL_nil ?_
    refine WQ_code ?_
    refine WC_dT rfl (by exact h0) ?_
    refine WC_seq ?_
    refine WC_region ?_
    refine WL_val rfl rfl rfl (R_move rfl rfl) ?_
    refine WL_val rfl rfl rfl (R_fieldAddr rfl fa48_2 rfl) ?_
    refine WL_val rfl rfl rfl (R_load rfl sc30 rfl (mmY) rfl) ?_
    refine WL_val rfl rfl rfl (R_fieldAddr rfl fa48_3 rfl) ?_
    refine WL_val rfl rfl rfl (R_load rfl sc9 rfl (mmY) rfl) ?_
    refine WL_do rfl rfl rfl (D_call (bpick_bad m now key (by rw [hmay]; decide)) rfl rfl rfl rfl (pqY)) ?_
    rintro _ _ ⟨_, ⟨rfl, rfl⟩, rfl⟩
    rw [hmay]
    refine WL_val rfl rfl rfl (R_move rfl rfl) ?_
    refine WL_val rfl rfl rfl (R_extract rfl rfl rfl) ?_
    refine WL_val rfl rfl rfl (R_extract rfl rfl rfl) ?_
    refine WL_do rfl rfl rfl (D_alloc rfl zv36) ?_
    rintro _ _ ⟨b5, rfl, rfl⟩
    refine WL_do0 rfl rfl (D_store (vs := [_, _]) rfl Try.sizeOf36 rfl rfl rfl rfl rfl (plY) (by exact Nat.le_of_ble_eq_true rfl)) ?_
    rintro _ _ rfl
    refine WL_val rfl rfl rfl (R_assign rfl rfl) ?_
    refine WL_nil ?_
    refine WQ_code ?_
    refine WC_seq ?_
    refine WC_seq ?_
    refine WC_region ?_
    refine WL_val rfl rfl rfl (R_fieldAddr rfl fa48_3 rfl) ?_
    refine WL_val rfl rfl rfl (R_load rfl sc9 rfl (mmY) rfl) ?_
    refine WL_val rfl rfl rfl (R_lenStr rfl Try.underlying9 rfl) ?_
    refine WL_val rfl rfl rfl (R_gtr rfl rfl rfl) ?_
    refine WL_nil ?_
    refine WQ_code ?_
    refine WC_dF rfl (by omega) ?_
    refine WC_skip ?_
    refine WQ_code ?_
    refine WC_seq ?_
    refine WC_seq ?_
    refine WC_region ?_
    refine WL_val rfl rfl rfl (R_move rfl rfl) ?_
    refine WL_nil ?_
    refine WQ_code ?_
    refine WC_dT rfl (by omega) ?_
    refine WC_seq ?_
    refine WC_drawR [⟨some b3, _⟩] [(0, true), (1, true), (2, true), (3, true), (4, true), (5, true), (6, true), (7, true), (8, true), (9, true), (10, false), (11, true)] followsMixed rfl rfl (by kernel_rfl) (pqY) ?_
    refine WM_val rfl rfl rfl rfl (R_move rfl rfl) ?_
    refine WM_val rfl rfl rfl rfl (R_loadA (vs := [_, _, _, _, _, _]) rfl ag45 rfl (mmY) rfl (atZ)) ?_
    refine WM_val rfl rfl rfl rfl (R_loadA (vs := [_, _]) rfl ag36 rfl (mmY) rfl (atZ)) ?_
    refine WM_val rfl rfl rfl rfl (R_build rfl zv36 pl36 rfl rfl) ?_
    refine WM_val rfl rfl rfl rfl (R_seq36 rfl rfl rfl rfl) ?_
    refine WM_set (s := 62) (v := .bool true) rfl (by simp) ?_
    refine WM_val rfl rfl rfl rfl (R_move rfl rfl) ?_
    refine WM_val rfl rfl rfl rfl (R_move rfl rfl) ?_
    refine WM_val rfl rfl rfl rfl (R_eql rfl rfl rfl) ?_
    refine WM_set (s := 65) (v := .bool true) rfl (by simp) ?_
    refine WM_val rfl rfl rfl rfl (R_pickT rfl rfl rfl) ?_
    refine WM_val rfl rfl rfl rfl (R_assign rfl rfl) ?_
    refine WM_do0 rfl rfl rfl (D_store (vs := [_, _, _, _, _, _]) rfl Try.sizeOf45 rfl rfl rfl rfl rfl (plY) (by exact Nat.le_of_ble_eq_true rfl)) ?_
    rintro _ _ rfl
    refine ⟨⟨_, pqY⟩, ?_⟩
    refine WM_val rfl rfl rfl rfl (R_assign rfl rfl) ?_
    refine WM_nil ?_
    refine WQ_code ?_
    refine WC_ret ?_
    refine WQ_ret rfl rfl (.cons (.tmp rfl) (.cons (.cell (vs := [_, _, _, _, _, _]) rfl ag45 (mmY) rfl (atZ)) (.cons (.tmp rfl) .nil))) rfl (by
        exact ⟨m, s, l, rfl, rfl, hb.le (Nat.le_succ N), hl.le (Nat.le_succ N), hr⟩) (pqY)
theorem st_none {N : Nat} {m : Bm} {s : BS} {l : Lm} (hb : BIs N m s) (hl : LmIs N l) (hr : Rel s l) (hN : N ≤ 8000) (wt n : Int) (now : Nat) (key : ByteArray) (good : Bool) (h1 : l.last ≤ now) (h2 : now ≤ 18446744073709551614) (h0 : wt = 0) (hk : key.size ≤ 64) (hc : s.cand now = []) : Spec Try.prog 15 [ptrB m.p, lmV l, .agg #[.int .i64 wt, .int .i64 n, .int .u64 (now : Int), .string key, .bool good]] (balH m ++ lmH l) (fun r H' => ∃ m2 s2 l2, r = .tuple #[ptrB m2.p, lmV l2, .bool true] ∧ H' = balH m2 ++ lmH l2 ∧ BIs (N + 1) m2 s2 ∧ LmIs (N + 1) l2 ∧ Rel s2 l2) := by
  have hml : m.last = l.last := hb.last.trans hr.last.symm
  have hsl : s.last = l.last := hr.last.symm
  have hln : l.n = s.V.length := by rw [← hl.hn, cq_len (hr.to hb), hb.is.hn]; exact hb.len
  have hnn := hl.n
  have hgv : s.gv = l.gv := hr.gv.symm
  have hglv := hl.gv
  have hcll := hl.cl
  have hch : chI l.kd l.L l.nx key (cand l.L now) = -1 := by unfold chI; rw [if_pos (by rw [hr.candE]; exact hc)]
  refine Spec.of (E := [(0, ptrB m.p), (1, lmV l), (2, .agg #[.int .i64 wt, .int .i64 n, .int .u64 (now : Int), .string key, .bool good])]) Try.func15 rfl (by kernel_rfl) Try.ntmps15 rfl rfl (fun w => ?_)
  refine WC_seq ?_
  refine WC_region ?_
  refine WL_do rfl rfl rfl (D_box (cs := [_, _, _, _, _, _]) rfl rfl rfl) ?_
  rintro _ _ ⟨b1, rfl, rfl⟩
  refine WL_do rfl rfl rfl (D_box (cs := [_, _, _, _, _]) rfl rfl rfl) ?_
  rintro _ _ ⟨b2, rfl, rfl⟩
  refine WL_val rfl rfl rfl (R_assign rfl rfl) ?_
  refine WL_do rfl rfl rfl (D_alloc rfl zv45) ?_
  rintro _ _ ⟨b3, rfl, rfl⟩
  refine WL_val rfl rfl rfl (R_assign rfl rfl) ?_
  refine WL_nil ?_
  refine WQ_code ?_
  refine WC_seq ?_
  refine WC_region ?_
  refine WL_val rfl rfl rfl (R_fieldAddr rfl fa48_2 rfl) ?_
  refine WL_val rfl rfl rfl (R_load rfl sc30 rfl (mmY) rfl) ?_
  refine WL_val rfl rfl rfl (R_fieldAddr rfl fa45_5 rfl) ?_
  refine WL_val rfl rfl rfl (R_load rfl sc30 rfl (mmY) rfl) ?_
  refine WL_val rfl rfl rfl (R_lss rfl rfl rfl) ?_
  refine WL_val rfl rfl rfl (R_move rfl rfl) ?_
  refine WL_set (s := 26) (v := .bool false) rfl (by exact congrArg Value.bool (decide_eq_false (by omega))) ?_
  refine WL_val rfl rfl rfl (R_fieldAddr rfl fa48_2 rfl) ?_
  refine WL_val rfl rfl rfl (R_load rfl sc30 rfl (mmY) rfl) ?_
  refine WL_val rfl rfl rfl (R_eql rfl rfl rfl) ?_
  refine WL_val rfl rfl rfl (R_pickF rfl rfl rfl) ?_
  refine WL_val rfl rfl rfl (R_assign rfl rfl) ?_
  refine WL_nil ?_
  refine WQ_code ?_
  refine WC_seq ?_
  refine WC_seq ?_
  refine WC_region ?_
  refine WL_val rfl rfl rfl (R_fieldAddr rfl fa48_0 rfl) ?_
  refine WL_val rfl rfl rfl (R_load rfl sc3 rfl (mmY) rfl) ?_
  refine WL_nil ?_
  refine WQ_code ?_
  refine WC_block ?_
  refine WC_seq ?_
  refine WC_region ?_
  refine WL_val rfl rfl rfl (R_eql rfl rfl rfl) ?_
  refine WL_val rfl rfl rfl (R_assign rfl rfl) ?_
  refine WL_nil ?_
  refine WQ_code ?_
  refine WC_dT rfl (by exact h0) ?_
  refine WC_seq ?_
  refine WC_region ?_
  refine WL_val rfl rfl rfl (R_move rfl rfl) ?_
  refine WL_val rfl rfl rfl (R_fieldAddr rfl fa48_2 rfl) ?_
  refine WL_val rfl rfl rfl (R_load rfl sc30 rfl (mmY) rfl) ?_
  refine WL_val rfl rfl rfl (R_fieldAddr rfl fa48_3 rfl) ?_
  refine WL_val rfl rfl rfl (R_load rfl sc9 rfl (mmY) rfl) ?_
  refine WL_do rfl rfl rfl (D_call (bpn_ok hb (by omega) now key hk (by omega) h2 hc) rfl rfl rfl rfl (pqY)) ?_
  rintro _ _ ⟨_, ⟨rfl, rfl⟩, rfl⟩
  refine WL_val rfl rfl rfl (R_move rfl rfl) ?_
  refine WL_val rfl rfl rfl (R_extract rfl rfl rfl) ?_
  refine WL_val rfl rfl rfl (R_extract rfl rfl rfl) ?_
  refine WL_do rfl rfl rfl (D_alloc rfl zv36) ?_
  rintro _ _ ⟨b4, rfl, rfl⟩
  refine WL_do0 rfl rfl (D_store (vs := [_, _]) rfl Try.sizeOf36 rfl rfl rfl rfl rfl (plY) (by exact Nat.le_of_ble_eq_true rfl)) ?_
  rintro _ _ rfl
  refine WL_val rfl rfl rfl (R_assign rfl rfl) ?_
  refine WL_nil ?_
  refine WQ_code ?_
  refine WC_seq ?_
  refine WC_seq ?_
  refine WC_region ?_
  refine WL_val rfl rfl rfl (R_fieldAddr rfl fa48_3 rfl) ?_
  refine WL_val rfl rfl rfl (R_load rfl sc9 rfl (mmY) rfl) ?_
  refine WL_val rfl rfl rfl (R_lenStr rfl Try.underlying9 rfl) ?_
  refine WL_val rfl rfl rfl (R_gtr rfl rfl rfl) ?_
  refine WL_nil ?_
  refine WQ_code ?_
  refine WC_dF rfl (by omega) ?_
  refine WC_skip ?_
  refine WQ_code ?_
  refine WC_seq ?_
  refine WC_seq ?_
  refine WC_region ?_
  refine WL_val rfl rfl rfl (R_move rfl rfl) ?_
  refine WL_nil ?_
  refine WQ_code ?_
  refine WC_dF rfl (by omega) ?_
  refine WC_skip ?_
  refine WQ_code ?_
  refine WC_seq ?_
  refine WC_drawB _ [(0, .q), (1, .q), (2, .q), (3, .q), (5, .q), (6, .q), (4, .n [11]), (7, .n [11]), (8, .q), (9, .q), (10, .q), (11, .b []), (12, .n []), (13, .q)] followsMixed rfl rfl (by kernel_rfl) .all ?_
  refine WB_val rfl rfl rfl rfl (R_loadA (vs := [_, _, _, _, _, _]) rfl ag45 rfl (mmY) rfl (atZ)) ?_
  refine WB_val rfl rfl rfl rfl (R_loadA (vs := [_, _, _, _, _, _]) rfl ag45 rfl (mmY) rfl (atZ)) ?_
  refine WB_val rfl rfl rfl rfl (R_fieldAddr rfl fa48_2 rfl) ?_
  refine WB_val rfl rfl rfl rfl (R_load rfl sc30 rfl (mmY) rfl) ?_
  refine WB_val rfl rfl rfl rfl (R_fieldAddr rfl fa48_3 rfl) ?_
  refine WB_val rfl rfl rfl rfl (R_load rfl sc9 rfl (mmY) rfl) ?_
  refine WB_do rfl rfl rfl rfl (.cons rfl rfl (B_alloc rfl zv45) .nil) (fun _ => D_call (lcands_ok l now hl.hn hl.n.2 (hr.fit hb (by omega)) h2) rfl rfl rfl rfl (pqY)) ?_
  rintro _ _ ⟨_, ⟨cb, rfl, rfl⟩, rfl⟩
  refine ⟨⟨_, pqY⟩, ?_⟩
  refine WB_do rfl rfl rfl rfl (.cons rfl rfl (B_alloc rfl zv45) .nil) (fun _ => D_call (lchoose_ok l N hl (by omega) (by have := hb.is.k; rw [hr.k, ← hb.k]; exact this) (hr.w hb) (hr.act hb) now cb key hk) rfl rfl rfl rfl (pqY)) ?_
  rintro _ _ ⟨_, ⟨lo2, lc2, lt2, rfl, rfl, ow2⟩, rfl⟩
  refine ⟨⟨_, pqY⟩, ?_⟩
  refine WB_val rfl rfl rfl rfl (R_move rfl rfl) ?_
  refine WB_val rfl rfl rfl rfl (R_extract rfl rfl rfl) ?_
  refine WB_val rfl rfl rfl rfl (R_extract rfl rfl rfl) ?_
  refine WB_birth rfl rfl rfl rfl .nil (B_alloc rfl zv45) (fun b5 => ?_)
  refine WB_do0 rfl rfl rfl .nil (fun _ => D_store (vs := [_, _, _, _, _, _]) rfl Try.sizeOf45 rfl rfl rfl rfl rfl (plY) (by exact Nat.le_of_ble_eq_true rfl)) ?_
  rintro _ _ rfl
  refine ⟨⟨_, pqY⟩, ?_⟩
  refine WB_val rfl rfl rfl rfl (R_assign rfl rfl) ?_
  refine WB_nil ?_
  refine WQ_code ?_
  refine WC_seq ?_
  refine WC_seq ?_
  refine WC_region ?_
  refine WL_val rfl rfl rfl (R_move rfl rfl) ?_
  refine WL_val rfl rfl rfl (R_lss rfl rfl rfl) ?_
  refine WL_nil ?_
  refine WQ_code ?_
  refine WC_dT rfl (by rw [hch]; decide) ?_
  refine WC_seq ?_
  refine WC_drawR [⟨some b3, _⟩] [(0, true), (1, true), (2, true), (3, true), (4, true), (5, true), (6, true), (7, true), (8, true), (9, true), (10, false), (11, true)] followsMixed rfl rfl (by kernel_rfl) (pqY) ?_
  refine WM_val rfl rfl rfl rfl (R_move rfl rfl) ?_
  refine WM_val rfl rfl rfl rfl (R_loadA (vs := [_, _, _, _, _, _]) rfl ag45 rfl (mmY) rfl (atZ)) ?_
  refine WM_val rfl rfl rfl rfl (R_loadA (vs := [_, _]) rfl ag36 rfl (mmY) rfl (atZ)) ?_
  refine WM_val rfl rfl rfl rfl (R_build rfl zv36 pl36 rfl rfl) ?_
  refine WM_val rfl rfl rfl rfl (R_seq36 rfl rfl rfl rfl) ?_
  refine WM_set (s := 84) (v := .bool true) rfl (by simp) ?_
  refine WM_val rfl rfl rfl rfl (R_move rfl rfl) ?_
  refine WM_val rfl rfl rfl rfl (R_move rfl rfl) ?_
  refine WM_val rfl rfl rfl rfl (R_eql rfl rfl rfl) ?_
  refine WM_set (s := 87) (v := .bool true) rfl (by simp) ?_
  refine WM_val rfl rfl rfl rfl (R_pickT rfl rfl rfl) ?_
  refine WM_val rfl rfl rfl rfl (R_assign rfl rfl) ?_
  refine WM_do0 rfl rfl rfl (D_store (vs := [_, _, _, _, _, _]) rfl Try.sizeOf45 rfl rfl rfl rfl rfl (plY) (by exact Nat.le_of_ble_eq_true rfl)) ?_
  rintro _ _ rfl
  refine ⟨⟨_, pqY⟩, ?_⟩
  refine WM_val rfl rfl rfl rfl (R_assign rfl rfl) ?_
  refine WM_nil ?_
  refine WQ_code ?_
  refine WC_ret ?_
  refine WQ_ret rfl rfl (.cons (.tmp rfl) (.cons (.cell (vs := [_, _, _, _, _, _]) rfl ag45 (mmY) rfl (atZ)) (.cons (.tmp rfl) .nil))) rfl (by
      exact ⟨m, s, l, rfl, rfl, hb.le (Nat.le_succ N), hl.le (Nat.le_succ N), hr⟩) (pqY)
theorem st_late1 {N : Nat} {m : Bm} {s : BS} {l : Lm} (hb : BIs N m s) (hl : LmIs N l) (hr : Rel s l) (hN : N ≤ 8000) (wt n : Int) (now : Nat) (key : ByteArray) (good : Bool) (h2 : now ≤ 18446744073709551615) (hlate : now < l.last ∨ now = 18446744073709551615) (h0 : wt = 1) : Spec Try.prog 15 [ptrB m.p, lmV l, .agg #[.int .i64 wt, .int .i64 n, .int .u64 (now : Int), .string key, .bool good]] (balH m ++ lmH l) (fun r H' => ∃ m2 s2 l2, r = .tuple #[ptrB m2.p, lmV l2, .bool true] ∧ H' = balH m2 ++ lmH l2 ∧ BIs (N + 1) m2 s2 ∧ LmIs (N + 1) l2 ∧ Rel s2 l2) := by
  have hml : m.last = l.last := hb.last.trans hr.last.symm
  have hsl : s.last = l.last := hr.last.symm
  have hln : l.n = s.V.length := by rw [← hl.hn, cq_len (hr.to hb), hb.is.hn]; exact hb.len
  have hnn := hl.n
  have hgv : s.gv = l.gv := hr.gv.symm
  have hglv := hl.gv
  have hcll := hl.cl
  have hmay : mayB m true now = 3 := by unfold mayB; rw [if_neg (by decide), if_pos (by omega)]
  refine Spec.of (E := [(0, ptrB m.p), (1, lmV l), (2, .agg #[.int .i64 wt, .int .i64 n, .int .u64 (now : Int), .string key, .bool good])]) Try.func15 rfl (by kernel_rfl) Try.ntmps15 rfl rfl (fun w => ?_)
  refine WC_seq ?_
  refine WC_region ?_
  refine WL_do rfl rfl rfl (D_box (cs := [_, _, _, _, _, _]) rfl rfl rfl) ?_
  rintro _ _ ⟨b1, rfl, rfl⟩
  refine WL_do rfl rfl rfl (D_box (cs := [_, _, _, _, _]) rfl rfl rfl) ?_
  rintro _ _ ⟨b2, rfl, rfl⟩
  refine WL_val rfl rfl rfl (R_assign rfl rfl) ?_
  refine WL_do rfl rfl rfl (D_alloc rfl zv45) ?_
  rintro _ _ ⟨b3, rfl, rfl⟩
  refine WL_val rfl rfl rfl (R_assign rfl rfl) ?_
  refine WL_nil ?_
  refine WQ_code ?_
  refine WC_seq ?_
  refine WC_region ?_
  refine WL_val rfl rfl rfl (R_fieldAddr rfl fa48_2 rfl) ?_
  refine WL_val rfl rfl rfl (R_load rfl sc30 rfl (mmY) rfl) ?_
  refine WL_val rfl rfl rfl (R_fieldAddr rfl fa45_5 rfl) ?_
  refine WL_val rfl rfl rfl (R_load rfl sc30 rfl (mmY) rfl) ?_
  refine WL_val rfl rfl rfl (R_lss rfl rfl rfl) ?_
  refine WL_val rfl rfl rfl (R_move rfl rfl) ?_
  refine WL_splitD (s := 26) rfl (fun c1 => ?_) (fun c1 => ?_)
  · refine WL_skip rfl rfl rfl ?_
    refine WL_skip rfl rfl rfl ?_
    refine WL_skip rfl rfl rfl ?_
    refine WL_val rfl rfl rfl (R_pickT rfl rfl rfl) ?_
    refine WL_val rfl rfl rfl (R_assign rfl rfl) ?_
    refine WL_nil ?_
    refine WQ_code ?_
    refine WC_seq ?_
    refine WC_seq ?_
    refine WC_region ?_
    refine WL_val rfl rfl rfl (R_fieldAddr rfl fa48_0 rfl) ?_
    refine WL_val rfl rfl rfl (R_load rfl sc3 rfl (mmY) rfl) ?_
    refine WL_nil ?_
    refine WQ_code ?_
    refine WC_block ?_
    refine WC_seq ?_
    refine WC_region ?_
    refine WL_val rfl rfl rfl (R_eql rfl rfl rfl) ?_
    refine WL_val rfl rfl rfl (R_assign rfl rfl) ?_
    refine WL_nil ?_
    refine WQ_code ?_
    refine WC_dF rfl (by omega) ?_
    refine WC_seq ?_
    refine WC_region ?_
    refine WL_val rfl rfl rfl (R_eql rfl rfl rfl) ?_
    refine WL_val rfl rfl rfl (R_assign rfl rfl) ?_
    refine WL_nil ?_
    refine WQ_code ?_
    refine WC_dT rfl (by exact h0) ?_
    refine WC_seq ?_
    refine WC_region ?_
    refine WL_val rfl rfl rfl (R_move rfl rfl) ?_
    refine WL_val rfl rfl rfl (R_fieldAddr rfl fa48_2 rfl) ?_
    refine WL_val rfl rfl rfl (R_load rfl sc30 rfl (mmY) rfl) ?_
    refine WL_val rfl rfl rfl (R_fieldAddr rfl fa48_1 rfl) ?_
    refine WL_val rfl rfl rfl (R_load rfl sc3 rfl (mmY) rfl) ?_
    refine WL_val rfl rfl rfl (R_fieldAddr rfl fa48_4 rfl) ?_
    refine WL_val rfl rfl rfl (R_load rfl sc4 rfl (mmY) rfl) ?_
    refine WL_do rfl rfl rfl (D_call (bdone_bad m now n good (by rw [hmay]; decide)) rfl rfl rfl rfl (pqY)) ?_
    rintro _ _ ⟨_, ⟨rfl, rfl⟩, rfl⟩
    rw [hmay]
    refine WL_val rfl rfl rfl (R_assign rfl rfl) ?_
    refine WL_nil ?_
    refine WQ_code ?_
    refine WC_seq ?_
    refine WC_seq ?_
    refine WC_region ?_
    refine WL_val rfl rfl rfl (R_move rfl rfl) ?_
    refine WL_nil ?_
    refine WQ_code ?_
    refine WC_T rfl ?_
    refine WC_seq ?_
    refine WC_drawR [⟨some b3, _⟩] [(0, true), (1, true), (2, true), (3, true), (4, true), (5, false), (6, true)] followsMixed rfl rfl (by kernel_rfl) (pqY) ?_
    refine WM_val rfl rfl rfl rfl (R_move rfl rfl) ?_
    refine WM_val rfl rfl rfl rfl (R_loadA (vs := [_, _, _, _, _, _]) rfl ag45 rfl (mmY) rfl (atZ)) ?_
    refine WM_val rfl rfl rfl rfl (R_move rfl rfl) ?_
    refine WM_val rfl rfl rfl rfl (R_eql rfl rfl rfl) ?_
    refine WM_set (s := 158) (v := .bool true) rfl (by simp) ?_
    refine WM_val rfl rfl rfl rfl (R_assign rfl rfl) ?_
    refine WM_do0 rfl rfl rfl (D_store (vs := [_, _, _, _, _, _]) rfl Try.sizeOf45 rfl rfl rfl rfl rfl (plY) (by exact Nat.le_of_ble_eq_true rfl)) ?_
    rintro _ _ rfl
    refine ⟨⟨_, pqY⟩, ?_⟩
    refine WM_val rfl rfl rfl rfl (R_assign rfl rfl) ?_
    refine WM_nil ?_
    refine WQ_code ?_
    refine WC_ret ?_
    refine WQ_ret rfl rfl (.cons (.tmp rfl) (.cons (.cell (vs := [_, _, _, _, _, _]) rfl ag45 (mmY) rfl (atZ)) (.cons (.tmp rfl) .nil))) rfl (by
        exact ⟨m, s, l, rfl, rfl, hb.le (Nat.le_succ N), hl.le (Nat.le_succ N), hr⟩) (pqY)
  · refine WL_val rfl rfl rfl (R_fieldAddr rfl fa48_2 rfl) ?_
    refine WL_val rfl rfl rfl (R_load rfl sc30 rfl (mmY) rfl) ?_
    refine WL_val rfl rfl rfl (R_eql rfl rfl rfl) ?_
    refine WL_val rfl rfl rfl (R_pickF rfl rfl rfl) ?_
    refine WL_val rfl rfl rfl (R_assign rfl rfl) ?_
    refine WL_nil ?_
    refine WQ_code ?_
    refine WC_seq ?_
    refine WC_seq ?_
    refine WC_region ?_
    refine WL_val rfl rfl rfl (R_fieldAddr rfl fa48_0 rfl) ?_
    refine WL_val rfl rfl rfl (R_load rfl sc3 rfl (mmY) rfl) ?_
    refine WL_nil ?_
    refine WQ_code ?_
    refine WC_block ?_
    refine WC_seq ?_
    refine WC_region ?_
    refine WL_val rfl rfl rfl (R_eql rfl rfl rfl) ?_
    refine WL_val rfl rfl rfl (R_assign rfl rfl) ?_
    refine WL_nil ?_
    refine WQ_code ?_
    refine WC_dF rfl (by omega) ?_
    refine WC_seq ?_
    refine WC_region ?_
    refine WL_val rfl rfl rfl (R_eql rfl rfl rfl) ?_
    refine WL_val rfl rfl rfl (R_assign rfl rfl) ?_
    refine WL_nil ?_
    refine WQ_code ?_
    refine WC_dT rfl (by exact h0) ?_
    refine WC_seq ?_
    refine WC_region ?_
    refine WL_val rfl rfl rfl (R_move rfl rfl) ?_
    refine WL_val rfl rfl rfl (R_fieldAddr rfl fa48_2 rfl) ?_
    refine WL_val rfl rfl rfl (R_load rfl sc30 rfl (mmY) rfl) ?_
    refine WL_val rfl rfl rfl (R_fieldAddr rfl fa48_1 rfl) ?_
    refine WL_val rfl rfl rfl (R_load rfl sc3 rfl (mmY) rfl) ?_
    refine WL_val rfl rfl rfl (R_fieldAddr rfl fa48_4 rfl) ?_
    refine WL_val rfl rfl rfl (R_load rfl sc4 rfl (mmY) rfl) ?_
    refine WL_do rfl rfl rfl (D_call (bdone_bad m now n good (by rw [hmay]; decide)) rfl rfl rfl rfl (pqY)) ?_
    rintro _ _ ⟨_, ⟨rfl, rfl⟩, rfl⟩
    rw [hmay]
    refine WL_val rfl rfl rfl (R_assign rfl rfl) ?_
    refine WL_nil ?_
    refine WQ_code ?_
    refine WC_seq ?_
    refine WC_seq ?_
    refine WC_region ?_
    refine WL_val rfl rfl rfl (R_move rfl rfl) ?_
    refine WL_nil ?_
    refine WQ_code ?_
    refine WC_dT rfl (by omega) ?_
    refine WC_seq ?_
    refine WC_drawR [⟨some b3, _⟩] [(0, true), (1, true), (2, true), (3, true), (4, true), (5, false), (6, true)] followsMixed rfl rfl (by kernel_rfl) (pqY) ?_
    refine WM_val rfl rfl rfl rfl (R_move rfl rfl) ?_
    refine WM_val rfl rfl rfl rfl (R_loadA (vs := [_, _, _, _, _, _]) rfl ag45 rfl (mmY) rfl (atZ)) ?_
    refine WM_val rfl rfl rfl rfl (R_move rfl rfl) ?_
    refine WM_val rfl rfl rfl rfl (R_eql rfl rfl rfl) ?_
    refine WM_set (s := 158) (v := .bool true) rfl (by simp) ?_
    refine WM_val rfl rfl rfl rfl (R_assign rfl rfl) ?_
    refine WM_do0 rfl rfl rfl (D_store (vs := [_, _, _, _, _, _]) rfl Try.sizeOf45 rfl rfl rfl rfl rfl (plY) (by exact Nat.le_of_ble_eq_true rfl)) ?_
    rintro _ _ rfl
    refine ⟨⟨_, pqY⟩, ?_⟩
    refine WM_val rfl rfl rfl rfl (R_assign rfl rfl) ?_
    refine WM_nil ?_
    refine WQ_code ?_
    refine WC_ret ?_
    refine WQ_ret rfl rfl (.cons (.tmp rfl) (.cons (.cell (vs := [_, _, _, _, _, _]) rfl ag45 (mmY) rfl (atZ)) (.cons (.tmp rfl) .nil))) rfl (by
        exact ⟨m, s, l, rfl, rfl, hb.le (Nat.le_succ N), hl.le (Nat.le_succ N), hr⟩) (pqY)
theorem st_nocall {N : Nat} {m : Bm} {s : BS} {l : Lm} (hb : BIs N m s) (hl : LmIs N l) (hr : Rel s l) (hN : N ≤ 8000) (wt n : Int) (now : Nat) (key : ByteArray) (good : Bool) (h1 : l.last ≤ now) (h2 : now ≤ 18446744073709551614) (h0 : wt = 1) (hc : n ∉ s.C.map (·.1)) : Spec Try.prog 15 [ptrB m.p, lmV l, .agg #[.int .i64 wt, .int .i64 n, .int .u64 (now : Int), .string key, .bool good]] (balH m ++ lmH l) (fun r H' => ∃ m2 s2 l2, r = .tuple #[ptrB m2.p, lmV l2, .bool true] ∧ H' = balH m2 ++ lmH l2 ∧ BIs (N + 1) m2 s2 ∧ LmIs (N + 1) l2 ∧ Rel s2 l2) := by
  have hml : m.last = l.last := hb.last.trans hr.last.symm
  have hsl : s.last = l.last := hr.last.symm
  have hln : l.n = s.V.length := by rw [← hl.hn, cq_len (hr.to hb), hb.is.hn]; exact hb.len
  have hnn := hl.n
  have hgv : s.gv = l.gv := hr.gv.symm
  have hglv := hl.gv
  have hcll := hl.cl
  have hcl : ∀ c ∈ l.CL, c.1 ≠ n := fun c hx e => hc (by rw [hr.C] at hx; rw [← e]; exact List.mem_map_of_mem (List.mem_reverse.1 hx))
  refine Spec.of (E := [(0, ptrB m.p), (1, lmV l), (2, .agg #[.int .i64 wt, .int .i64 n, .int .u64 (now : Int), .string key, .bool good])]) Try.func15 rfl (by kernel_rfl) Try.ntmps15 rfl rfl (fun w => ?_)
  refine WC_seq ?_
  refine WC_region ?_
  refine WL_do rfl rfl rfl (D_box (cs := [_, _, _, _, _, _]) rfl rfl rfl) ?_
  rintro _ _ ⟨b1, rfl, rfl⟩
  refine WL_do rfl rfl rfl (D_box (cs := [_, _, _, _, _]) rfl rfl rfl) ?_
  rintro _ _ ⟨b2, rfl, rfl⟩
  refine WL_val rfl rfl rfl (R_assign rfl rfl) ?_
  refine WL_do rfl rfl rfl (D_alloc rfl zv45) ?_
  rintro _ _ ⟨b3, rfl, rfl⟩
  refine WL_val rfl rfl rfl (R_assign rfl rfl) ?_
  refine WL_nil ?_
  refine WQ_code ?_
  refine WC_seq ?_
  refine WC_region ?_
  refine WL_val rfl rfl rfl (R_fieldAddr rfl fa48_2 rfl) ?_
  refine WL_val rfl rfl rfl (R_load rfl sc30 rfl (mmY) rfl) ?_
  refine WL_val rfl rfl rfl (R_fieldAddr rfl fa45_5 rfl) ?_
  refine WL_val rfl rfl rfl (R_load rfl sc30 rfl (mmY) rfl) ?_
  refine WL_val rfl rfl rfl (R_lss rfl rfl rfl) ?_
  refine WL_val rfl rfl rfl (R_move rfl rfl) ?_
  refine WL_set (s := 26) (v := .bool false) rfl (by exact congrArg Value.bool (decide_eq_false (by omega))) ?_
  refine WL_val rfl rfl rfl (R_fieldAddr rfl fa48_2 rfl) ?_
  refine WL_val rfl rfl rfl (R_load rfl sc30 rfl (mmY) rfl) ?_
  refine WL_val rfl rfl rfl (R_eql rfl rfl rfl) ?_
  refine WL_val rfl rfl rfl (R_pickF rfl rfl rfl) ?_
  refine WL_val rfl rfl rfl (R_assign rfl rfl) ?_
  refine WL_nil ?_
  refine WQ_code ?_
  refine WC_seq ?_
  refine WC_seq ?_
  refine WC_region ?_
  refine WL_val rfl rfl rfl (R_fieldAddr rfl fa48_0 rfl) ?_
  refine WL_val rfl rfl rfl (R_load rfl sc3 rfl (mmY) rfl) ?_
  refine WL_nil ?_
  refine WQ_code ?_
  refine WC_block ?_
  refine WC_seq ?_
  refine WC_region ?_
  refine WL_val rfl rfl rfl (R_eql rfl rfl rfl) ?_
  refine WL_val rfl rfl rfl (R_assign rfl rfl) ?_
  refine WL_nil ?_
  refine WQ_code ?_
  refine WC_dF rfl (by omega) ?_
  refine WC_seq ?_
  refine WC_region ?_
  refine WL_val rfl rfl rfl (R_eql rfl rfl rfl) ?_
  refine WL_val rfl rfl rfl (R_assign rfl rfl) ?_
  refine WL_nil ?_
  refine WQ_code ?_
  refine WC_dT rfl (by exact h0) ?_
  refine WC_seq ?_
  refine WC_region ?_
  refine WL_val rfl rfl rfl (R_move rfl rfl) ?_
  refine WL_val rfl rfl rfl (R_fieldAddr rfl fa48_2 rfl) ?_
  refine WL_val rfl rfl rfl (R_load rfl sc30 rfl (mmY) rfl) ?_
  refine WL_val rfl rfl rfl (R_fieldAddr rfl fa48_1 rfl) ?_
  refine WL_val rfl rfl rfl (R_load rfl sc3 rfl (mmY) rfl) ?_
  refine WL_val rfl rfl rfl (R_fieldAddr rfl fa48_4 rfl) ?_
  refine WL_val rfl rfl rfl (R_load rfl sc4 rfl (mmY) rfl) ?_
  refine WL_do rfl rfl rfl (D_call (bdone_none m N s.C hb.is now n good (by omega) h2 hc) rfl rfl rfl rfl (pqY)) ?_
  rintro _ _ ⟨_, ⟨rfl, rfl⟩, rfl⟩
  refine WL_val rfl rfl rfl (R_assign rfl rfl) ?_
  refine WL_nil ?_
  refine WQ_code ?_
  refine WC_seq ?_
  refine WC_seq ?_
  refine WC_region ?_
  refine WL_val rfl rfl rfl (R_move rfl rfl) ?_
  refine WL_nil ?_
  refine WQ_code ?_
  refine WC_dF rfl (by omega) ?_
  refine WC_skip ?_
  refine WQ_code ?_
  refine WC_seq ?_
  refine WC_seq ?_
  refine WC_region ?_
  refine WL_val rfl rfl rfl (R_assign rfl rfl) ?_
  refine WL_nil ?_
  refine WQ_code ?_
  refine WC_block ?_
  refine WC_loopF (G := Nat) [6, 8, 17, 18, 159, 160, 161, 162, 163, 164, 165, 166, 167, 168, 169, 170, 171, 172, 173, 174, 175, 176, 177, 178, 179, 180, 181, 182, 183, 184, 185, 186, 187, 188, 189, 190, 191, 192, 193, 194, 195, 196, 197, 198, 199, 200, 201, 202, 203, 204, 205, 206, 207, 208, 209, 210, 211, 212, 213, 214, 215, 216, 217, 218, 219, 220, 221, 222, 223, 224, 225] (fun y => y ≤ l.CL.length) (fun y => [(17, .int .i64 (y : Int))]) (fun y => []) (fun y => l.CL.length - y) (0) (Nat.zero_le _) leZ (pqY) ?_
  rintro y hy
  refine WC_seq ?_
  refine WC_seq ?_
  refine WC_region ?_
  refine WL_val rfl rfl rfl (R_move rfl rfl) ?_
  refine WL_val rfl rfl rfl (R_fieldAddr rfl fa45_4 rfl) ?_
  refine WL_val rfl rfl rfl (R_load rfl sc43 rfl (mmY) rfl) ?_
  refine WL_val rfl rfl rfl (R_len rfl Try.underlying43 rfl) ?_
  refine WL_val rfl rfl rfl (R_lss rfl rfl rfl) ?_
  refine WL_nil ?_
  refine WQ_code ?_
  refine WC_dec rfl (fun c1 => ?_) (fun c1 => ?_)
  · refine WC_skip ?_
    refine WQ_code ?_
    refine WC_seq ?_
    refine WC_block ?_
    refine WC_seq ?_
    refine WC_region ?_
    obtain ⟨c9, hc9⟩ := getE (T := l.CL) (i := y) (by omega)
    obtain ⟨wc, hwc⟩ := hl.o2.some_of (by omega)
    refine WL_val rfl rfl rfl (R_fieldAddr rfl fa45_4 rfl) ?_
    refine WL_val rfl rfl rfl (R_load rfl sc43 rfl (mmY) rfl) ?_
    refine WL_val rfl rfl rfl (R_move rfl rfl) ?_
    refine WL_val rfl rfl rfl (R_idxO hwc rfl Try.underlying43 Try.sizeOf88 rfl rfl (by omega)) ?_
    refine WL_val rfl rfl rfl (R_loadAO (vs := encCl c9) hwc rfl ag88 rfl (mmY) rfl (fm_at0 encCl3 hc9 (j := 0) (vs := encCl c9) (fun j v h => by rw [Nat.zero_add]; exact h) (Nat.le_refl _))) ?_
    refine WL_do rfl rfl rfl (D_alloc rfl zv88) ?_
    rintro _ _ ⟨b4, rfl, rfl⟩
    refine WL_do0 rfl rfl (D_store (vs := [_, _, _]) rfl Try.sizeOf88 rfl rfl rfl rfl rfl (plY) (by exact Nat.le_of_ble_eq_true rfl)) ?_
    rintro _ _ rfl
    refine WL_nil ?_
    refine WQ_code ?_
    refine WC_seq ?_
    refine WC_seq ?_
    refine WC_region ?_
    refine WL_val rfl rfl rfl (R_fieldAddr rfl fa88_0 rfl) ?_
    refine WL_val rfl rfl rfl (R_load (v := .int .i64 c9.1) rfl sc3 rfl (mmY) (rfl)) ?_
    refine WL_val rfl rfl rfl (R_fieldAddr rfl fa48_1 rfl) ?_
    refine WL_val rfl rfl rfl (R_load rfl sc3 rfl (mmY) rfl) ?_
    refine WL_val rfl rfl rfl (R_neq rfl rfl rfl) ?_
    refine WL_nil ?_
    refine WQ_code ?_
    refine WC_dT rfl (by exact hcl c9 (List.mem_of_getElem? hc9)) ?_
    refine WC_exit ?_
    refine WQ_code ?_
    refine WC_region ?_
    refine WL_val rfl rfl rfl (R_move rfl rfl) ?_
    refine WL_val rfl rfl rfl (R_add rfl rfl rfl (by omega)) ?_
    refine WL_val rfl rfl rfl (R_assign rfl rfl) ?_
    refine WL_nil ?_
    refine WQ_nextF (y + 1) (by omega) (by omega) leZ (psZ) rfl (pqY)
  · refine WC_exit ?_
    refine WQ_code ?_
    refine WC_seq ?_
    refine WC_drawR [⟨some b3, _⟩] [(0, true), (1, true), (2, true), (3, true), (4, true), (5, false), (6, true)] followsMixed rfl rfl (by kernel_rfl) (pqY) ?_
    refine WM_val rfl rfl rfl rfl (R_move rfl rfl) ?_
    refine WM_val rfl rfl rfl rfl (R_loadA (vs := [_, _, _, _, _, _]) rfl ag45 rfl (mmY) rfl (atZ)) ?_
    refine WM_val rfl rfl rfl rfl (R_move rfl rfl) ?_
    refine WM_val rfl rfl rfl rfl (R_eql rfl rfl rfl) ?_
    refine WM_set (s := 229) (v := .bool true) rfl (by simp) ?_
    refine WM_val rfl rfl rfl rfl (R_assign rfl rfl) ?_
    refine WM_do0 rfl rfl rfl (D_store (vs := [_, _, _, _, _, _]) rfl Try.sizeOf45 rfl rfl rfl rfl rfl (plY) (by exact Nat.le_of_ble_eq_true rfl)) ?_
    rintro _ _ rfl
    refine ⟨⟨_, pqY⟩, ?_⟩
    refine WM_val rfl rfl rfl rfl (R_assign rfl rfl) ?_
    refine WM_nil ?_
    refine WQ_code ?_
    refine WC_ret ?_
    refine WQ_ret rfl rfl (.cons (.tmp rfl) (.cons (.cell (vs := [_, _, _, _, _, _]) rfl ag45 (mmY) rfl (atZ)) (.cons (.tmp rfl) .nil))) rfl (by
        exact ⟨m, s, l, rfl, rfl, hb.le (Nat.le_succ N), hl.le (Nat.le_succ N), hr⟩) (pqY)
theorem st_badup {N : Nat} {m : Bm} {s : BS} {l : Lm} (hb : BIs N m s) (hl : LmIs N l) (hr : Rel s l) (hN : N ≤ 8000) (wt n : Int) (now : Nat) (key : ByteArray) (good : Bool) (h0 : wt = 2) (hi : n < 0 ∨ (l.n : Int) ≤ n) : Spec Try.prog 15 [ptrB m.p, lmV l, .agg #[.int .i64 wt, .int .i64 n, .int .u64 (now : Int), .string key, .bool good]] (balH m ++ lmH l) (fun r H' => ∃ m2 s2 l2, r = .tuple #[ptrB m2.p, lmV l2, .bool true] ∧ H' = balH m2 ++ lmH l2 ∧ BIs (N + 1) m2 s2 ∧ LmIs (N + 1) l2 ∧ Rel s2 l2) := by
  have hml : m.last = l.last := hb.last.trans hr.last.symm
  have hsl : s.last = l.last := hr.last.symm
  have hln : l.n = s.V.length := by rw [← hl.hn, cq_len (hr.to hb), hb.is.hn]; exact hb.len
  have hnn := hl.n
  have hgv : s.gv = l.gv := hr.gv.symm
  have hglv := hl.gv
  have hcll := hl.cl
  have hmn : m.n = l.n := by rw [hln]; exact hb.len
  refine Spec.of (E := [(0, ptrB m.p), (1, lmV l), (2, .agg #[.int .i64 wt, .int .i64 n, .int .u64 (now : Int), .string key, .bool good])]) Try.func15 rfl (by kernel_rfl) Try.ntmps15 rfl rfl (fun w => ?_)
  refine WC_seq ?_
  refine WC_region ?_
  refine WL_do rfl rfl rfl (D_box (cs := [_, _, _, _, _, _]) rfl rfl rfl) ?_
  rintro _ _ ⟨b1, rfl, rfl⟩
  refine WL_do rfl rfl rfl (D_box (cs := [_, _, _, _, _]) rfl rfl rfl) ?_
  rintro _ _ ⟨b2, rfl, rfl⟩
  refine WL_val rfl rfl rfl (R_assign rfl rfl) ?_
  refine WL_do rfl rfl rfl (D_alloc rfl zv45) ?_
  rintro _ _ ⟨b3, rfl, rfl⟩
  refine WL_val rfl rfl rfl (R_assign rfl rfl) ?_
  refine WL_nil ?_
  refine WQ_code ?_
  refine WC_seq ?_
  refine WC_region ?_
  refine WL_val rfl rfl rfl (R_fieldAddr rfl fa48_2 rfl) ?_
  refine WL_val rfl rfl rfl (R_load rfl sc30 rfl (mmY) rfl) ?_
  refine WL_val rfl rfl rfl (R_fieldAddr rfl fa45_5 rfl) ?_
  refine WL_val rfl rfl rfl (R_load rfl sc30 rfl (mmY) rfl) ?_
  refine WL_val rfl rfl rfl (R_lss rfl rfl rfl) ?_
  refine WL_val rfl rfl rfl (R_move rfl rfl) ?_
  refine WL_splitD (s := 26) rfl (fun c1 => ?_) (fun c1 => ?_)
  · refine WL_skip rfl rfl rfl ?_
    refine WL_skip rfl rfl rfl ?_
    refine WL_skip rfl rfl rfl ?_
    refine WL_val rfl rfl rfl (R_pickT rfl rfl rfl) ?_
    refine WL_val rfl rfl rfl (R_assign rfl rfl) ?_
    refine WL_nil ?_
    refine WQ_code ?_
    refine WC_seq ?_
    refine WC_seq ?_
    refine WC_region ?_
    refine WL_val rfl rfl rfl (R_fieldAddr rfl fa48_0 rfl) ?_
    refine WL_val rfl rfl rfl (R_load rfl sc3 rfl (mmY) rfl) ?_
    refine WL_nil ?_
    refine WQ_code ?_
    refine WC_block ?_
    refine WC_seq ?_
    refine WC_region ?_
    refine WL_val rfl rfl rfl (R_eql rfl rfl rfl) ?_
    refine WL_val rfl rfl rfl (R_assign rfl rfl) ?_
    refine WL_nil ?_
    refine WQ_code ?_
    refine WC_dF rfl (by omega) ?_
    refine WC_seq ?_
    refine WC_region ?_
    refine WL_val rfl rfl rfl (R_eql rfl rfl rfl) ?_
    refine WL_val rfl rfl rfl (R_assign rfl rfl) ?_
    refine WL_nil ?_
    refine WQ_code ?_
    refine WC_dF rfl (by omega) ?_
    refine WC_seq ?_
    refine WC_region ?_
    refine WL_val rfl rfl rfl (R_eql rfl rfl rfl) ?_
    refine WL_val rfl rfl rfl (R_assign rfl rfl) ?_
    refine WL_nil ?_
    refine WQ_code ?_
    refine WC_dT rfl (by exact h0) ?_
    refine WC_seq ?_
    refine WC_region ?_
    refine WL_val rfl rfl rfl (R_move rfl rfl) ?_
    refine WL_val rfl rfl rfl (R_fieldAddr rfl fa48_1 rfl) ?_
    refine WL_val rfl rfl rfl (R_load rfl sc3 rfl (mmY) rfl) ?_
    refine WL_val rfl rfl rfl (R_fieldAddr rfl fa48_4 rfl) ?_
    refine WL_val rfl rfl rfl (R_load rfl sc4 rfl (mmY) rfl) ?_
    refine WL_do rfl rfl rfl (D_call (bsetup_bad m n (by omega) good) rfl rfl rfl rfl (pqY)) ?_
    rintro _ _ ⟨_, ⟨rfl, rfl⟩, rfl⟩
    refine WL_val rfl rfl rfl (R_assign rfl rfl) ?_
    refine WL_nil ?_
    refine WQ_code ?_
    refine WC_seq ?_
    refine WC_seq ?_
    refine WC_region ?_
    refine WL_val rfl rfl rfl (R_fieldAddr rfl fa48_1 rfl) ?_
    refine WL_val rfl rfl rfl (R_load rfl sc3 rfl (mmY) rfl) ?_
    refine WL_val rfl rfl rfl (R_lss rfl rfl rfl) ?_
    refine WL_val rfl rfl rfl (R_move rfl rfl) ?_
    refine WL_splitD (s := 241) rfl (fun c2 => ?_) (fun c2 => ?_)
    · refine WL_skip rfl rfl rfl ?_
      refine WL_skip rfl rfl rfl ?_
      refine WL_skip rfl rfl rfl ?_
      refine WL_skip rfl rfl rfl ?_
      refine WL_skip rfl rfl rfl ?_
      refine WL_skip rfl rfl rfl ?_
      refine WL_val rfl rfl rfl (R_pickT rfl rfl rfl) ?_
      refine WL_nil ?_
      refine WQ_code ?_
      refine WC_T rfl ?_
      refine WC_seq ?_
      refine WC_drawR [⟨some b3, _⟩] [(0, true), (1, true), (2, true), (3, true), (4, true), (5, false), (6, true)] followsMixed rfl rfl (by kernel_rfl) (pqY) ?_
      refine WM_val rfl rfl rfl rfl (R_move rfl rfl) ?_
      refine WM_val rfl rfl rfl rfl (R_loadA (vs := [_, _, _, _, _, _]) rfl ag45 rfl (mmY) rfl (atZ)) ?_
      refine WM_val rfl rfl rfl rfl (R_move rfl rfl) ?_
      refine WM_val rfl rfl rfl rfl (R_eql rfl rfl rfl) ?_
      refine WM_set (s := 252) (v := .bool true) rfl (by simp) ?_
      refine WM_val rfl rfl rfl rfl (R_assign rfl rfl) ?_
      refine WM_do0 rfl rfl rfl (D_store (vs := [_, _, _, _, _, _]) rfl Try.sizeOf45 rfl rfl rfl rfl rfl (plY) (by exact Nat.le_of_ble_eq_true rfl)) ?_
      rintro _ _ rfl
      refine ⟨⟨_, pqY⟩, ?_⟩
      refine WM_val rfl rfl rfl rfl (R_assign rfl rfl) ?_
      refine WM_nil ?_
      refine WQ_code ?_
      refine WC_ret ?_
      refine WQ_ret rfl rfl (.cons (.tmp rfl) (.cons (.cell (vs := [_, _, _, _, _, _]) rfl ag45 (mmY) rfl (atZ)) (.cons (.tmp rfl) .nil))) rfl (by
          exact ⟨m, s, l, rfl, rfl, hb.le (Nat.le_succ N), hl.le (Nat.le_succ N), hr⟩) (pqY)
    · refine WL_val rfl rfl rfl (R_fieldAddr rfl fa48_1 rfl) ?_
      refine WL_val rfl rfl rfl (R_load rfl sc3 rfl (mmY) rfl) ?_
      refine WL_val rfl rfl rfl (R_fieldAddr rfl fa45_1 rfl) ?_
      refine WL_val rfl rfl rfl (R_load rfl sc42 rfl (mmY) rfl) ?_
      refine WL_val rfl rfl rfl (R_len rfl Try.underlying42 rfl) ?_
      refine WL_val rfl rfl rfl (R_geq rfl rfl rfl) ?_
      refine WL_val rfl rfl rfl (R_pickF rfl rfl rfl) ?_
      refine WL_nil ?_
      refine WQ_code ?_
      refine WC_dT rfl (by omega) ?_
      refine WC_seq ?_
      refine WC_drawR [⟨some b3, _⟩] [(0, true), (1, true), (2, true), (3, true), (4, true), (5, false), (6, true)] followsMixed rfl rfl (by kernel_rfl) (pqY) ?_
      refine WM_val rfl rfl rfl rfl (R_move rfl rfl) ?_
      refine WM_val rfl rfl rfl rfl (R_loadA (vs := [_, _, _, _, _, _]) rfl ag45 rfl (mmY) rfl (atZ)) ?_
      refine WM_val rfl rfl rfl rfl (R_move rfl rfl) ?_
      refine WM_val rfl rfl rfl rfl (R_eql rfl rfl rfl) ?_
      refine WM_set (s := 252) (v := .bool true) rfl (by simp) ?_
      refine WM_val rfl rfl rfl rfl (R_assign rfl rfl) ?_
      refine WM_do0 rfl rfl rfl (D_store (vs := [_, _, _, _, _, _]) rfl Try.sizeOf45 rfl rfl rfl rfl rfl (plY) (by exact Nat.le_of_ble_eq_true rfl)) ?_
      rintro _ _ rfl
      refine ⟨⟨_, pqY⟩, ?_⟩
      refine WM_val rfl rfl rfl rfl (R_assign rfl rfl) ?_
      refine WM_nil ?_
      refine WQ_code ?_
      refine WC_ret ?_
      refine WQ_ret rfl rfl (.cons (.tmp rfl) (.cons (.cell (vs := [_, _, _, _, _, _]) rfl ag45 (mmY) rfl (atZ)) (.cons (.tmp rfl) .nil))) rfl (by
          exact ⟨m, s, l, rfl, rfl, hb.le (Nat.le_succ N), hl.le (Nat.le_succ N), hr⟩) (pqY)
  · refine WL_val rfl rfl rfl (R_fieldAddr rfl fa48_2 rfl) ?_
    refine WL_val rfl rfl rfl (R_load rfl sc30 rfl (mmY) rfl) ?_
    refine WL_val rfl rfl rfl (R_eql rfl rfl rfl) ?_
    refine WL_val rfl rfl rfl (R_pickF rfl rfl rfl) ?_
    refine WL_val rfl rfl rfl (R_assign rfl rfl) ?_
    refine WL_nil ?_
    refine WQ_code ?_
    refine WC_seq ?_
    refine WC_seq ?_
    refine WC_region ?_
    refine WL_val rfl rfl rfl (R_fieldAddr rfl fa48_0 rfl) ?_
    refine WL_val rfl rfl rfl (R_load rfl sc3 rfl (mmY) rfl) ?_
    refine WL_nil ?_
    refine WQ_code ?_
    refine WC_block ?_
    refine WC_seq ?_
    refine WC_region ?_
    refine WL_val rfl rfl rfl (R_eql rfl rfl rfl) ?_
    refine WL_val rfl rfl rfl (R_assign rfl rfl) ?_
    refine WL_nil ?_
    refine WQ_code ?_
    refine WC_dF rfl (by omega) ?_
    refine WC_seq ?_
    refine WC_region ?_
    refine WL_val rfl rfl rfl (R_eql rfl rfl rfl) ?_
    refine WL_val rfl rfl rfl (R_assign rfl rfl) ?_
    refine WL_nil ?_
    refine WQ_code ?_
    refine WC_dF rfl (by omega) ?_
    refine WC_seq ?_
    refine WC_region ?_
    refine WL_val rfl rfl rfl (R_eql rfl rfl rfl) ?_
    refine WL_val rfl rfl rfl (R_assign rfl rfl) ?_
    refine WL_nil ?_
    refine WQ_code ?_
    refine WC_dT rfl (by exact h0) ?_
    refine WC_seq ?_
    refine WC_region ?_
    refine WL_val rfl rfl rfl (R_move rfl rfl) ?_
    refine WL_val rfl rfl rfl (R_fieldAddr rfl fa48_1 rfl) ?_
    refine WL_val rfl rfl rfl (R_load rfl sc3 rfl (mmY) rfl) ?_
    refine WL_val rfl rfl rfl (R_fieldAddr rfl fa48_4 rfl) ?_
    refine WL_val rfl rfl rfl (R_load rfl sc4 rfl (mmY) rfl) ?_
    refine WL_do rfl rfl rfl (D_call (bsetup_bad m n (by omega) good) rfl rfl rfl rfl (pqY)) ?_
    rintro _ _ ⟨_, ⟨rfl, rfl⟩, rfl⟩
    refine WL_val rfl rfl rfl (R_assign rfl rfl) ?_
    refine WL_nil ?_
    refine WQ_code ?_
    refine WC_seq ?_
    refine WC_seq ?_
    refine WC_region ?_
    refine WL_val rfl rfl rfl (R_fieldAddr rfl fa48_1 rfl) ?_
    refine WL_val rfl rfl rfl (R_load rfl sc3 rfl (mmY) rfl) ?_
    refine WL_val rfl rfl rfl (R_lss rfl rfl rfl) ?_
    refine WL_val rfl rfl rfl (R_move rfl rfl) ?_
    refine WL_splitD (s := 241) rfl (fun c3 => ?_) (fun c3 => ?_)
    · refine WL_skip rfl rfl rfl ?_
      refine WL_skip rfl rfl rfl ?_
      refine WL_skip rfl rfl rfl ?_
      refine WL_skip rfl rfl rfl ?_
      refine WL_skip rfl rfl rfl ?_
      refine WL_skip rfl rfl rfl ?_
      refine WL_val rfl rfl rfl (R_pickT rfl rfl rfl) ?_
      refine WL_nil ?_
      refine WQ_code ?_
      refine WC_T rfl ?_
      refine WC_seq ?_
      refine WC_drawR [⟨some b3, _⟩] [(0, true), (1, true), (2, true), (3, true), (4, true), (5, false), (6, true)] followsMixed rfl rfl (by kernel_rfl) (pqY) ?_
      refine WM_val rfl rfl rfl rfl (R_move rfl rfl) ?_
      refine WM_val rfl rfl rfl rfl (R_loadA (vs := [_, _, _, _, _, _]) rfl ag45 rfl (mmY) rfl (atZ)) ?_
      refine WM_val rfl rfl rfl rfl (R_move rfl rfl) ?_
      refine WM_val rfl rfl rfl rfl (R_eql rfl rfl rfl) ?_
      refine WM_set (s := 252) (v := .bool true) rfl (by simp) ?_
      refine WM_val rfl rfl rfl rfl (R_assign rfl rfl) ?_
      refine WM_do0 rfl rfl rfl (D_store (vs := [_, _, _, _, _, _]) rfl Try.sizeOf45 rfl rfl rfl rfl rfl (plY) (by exact Nat.le_of_ble_eq_true rfl)) ?_
      rintro _ _ rfl
      refine ⟨⟨_, pqY⟩, ?_⟩
      refine WM_val rfl rfl rfl rfl (R_assign rfl rfl) ?_
      refine WM_nil ?_
      refine WQ_code ?_
      refine WC_ret ?_
      refine WQ_ret rfl rfl (.cons (.tmp rfl) (.cons (.cell (vs := [_, _, _, _, _, _]) rfl ag45 (mmY) rfl (atZ)) (.cons (.tmp rfl) .nil))) rfl (by
          exact ⟨m, s, l, rfl, rfl, hb.le (Nat.le_succ N), hl.le (Nat.le_succ N), hr⟩) (pqY)
    · refine WL_val rfl rfl rfl (R_fieldAddr rfl fa48_1 rfl) ?_
      refine WL_val rfl rfl rfl (R_load rfl sc3 rfl (mmY) rfl) ?_
      refine WL_val rfl rfl rfl (R_fieldAddr rfl fa45_1 rfl) ?_
      refine WL_val rfl rfl rfl (R_load rfl sc42 rfl (mmY) rfl) ?_
      refine WL_val rfl rfl rfl (R_len rfl Try.underlying42 rfl) ?_
      refine WL_val rfl rfl rfl (R_geq rfl rfl rfl) ?_
      refine WL_val rfl rfl rfl (R_pickF rfl rfl rfl) ?_
      refine WL_nil ?_
      refine WQ_code ?_
      refine WC_dT rfl (by omega) ?_
      refine WC_seq ?_
      refine WC_drawR [⟨some b3, _⟩] [(0, true), (1, true), (2, true), (3, true), (4, true), (5, false), (6, true)] followsMixed rfl rfl (by kernel_rfl) (pqY) ?_
      refine WM_val rfl rfl rfl rfl (R_move rfl rfl) ?_
      refine WM_val rfl rfl rfl rfl (R_loadA (vs := [_, _, _, _, _, _]) rfl ag45 rfl (mmY) rfl (atZ)) ?_
      refine WM_val rfl rfl rfl rfl (R_move rfl rfl) ?_
      refine WM_val rfl rfl rfl rfl (R_eql rfl rfl rfl) ?_
      refine WM_set (s := 252) (v := .bool true) rfl (by simp) ?_
      refine WM_val rfl rfl rfl rfl (R_assign rfl rfl) ?_
      refine WM_do0 rfl rfl rfl (D_store (vs := [_, _, _, _, _, _]) rfl Try.sizeOf45 rfl rfl rfl rfl rfl (plY) (by exact Nat.le_of_ble_eq_true rfl)) ?_
      rintro _ _ rfl
      refine ⟨⟨_, pqY⟩, ?_⟩
      refine WM_val rfl rfl rfl rfl (R_assign rfl rfl) ?_
      refine WM_nil ?_
      refine WQ_code ?_
      refine WC_ret ?_
      refine WQ_ret rfl rfl (.cons (.tmp rfl) (.cons (.cell (vs := [_, _, _, _, _, _]) rfl ag45 (mmY) rfl (atZ)) (.cons (.tmp rfl) .nil))) rfl (by
          exact ⟨m, s, l, rfl, rfl, hb.le (Nat.le_succ N), hl.le (Nat.le_succ N), hr⟩) (pqY)

end Go.Proofs.Ytiokpmgbabpikaa
