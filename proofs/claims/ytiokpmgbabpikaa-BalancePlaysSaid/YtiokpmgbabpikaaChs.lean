/-
  Chapter 48 (balance), part Chs: contracts of functions that the laws call, each for the heap it names.
-/
import Derived.Test.YtiokpmgbabpikaaRows
import Derived.Test.YtiokpmgbabpikaaZSLOpt
import Derived.Test.YtiokpmgbabpikaaTab
import Derived.Test.YtiokpmgbabpikaaLmL
import Derived.Test.YtiokpmgbabpikaaValid
import Derived.Test.YtiokpmgbabpikaaBal5
set_option linter.unusedVariables false
set_option maxRecDepth 20000
set_option maxHeartbeats 8000000
namespace Go.Proofs.Ytiokpmgbabpikaa

structure ChV where
  i : Nat
  b : Int
  l : List Int

abbrev lmV (m : Lm) : Value := .agg #[.int .i64 (m.kd : Int), slV (some m.lo) m.n m.lc, .int .i64 (m.nx : Int), .int .i64 (m.gv : Int), slV m.co m.CL.length m.cc, .int .u64 (m.last : Int)]
def okF (L : List Bk) (now k : Nat) (i : Nat) : Value := .bool (decide (i < k) && okAt L now i)
theorem lcands_ok (m : Lm) (now : Nat) (hn : m.L.length = m.n) (hn2 : m.n ≤ 64) (hf : ∀ x ∈ m.L, Fit x.b ∧ x.b.last ≤ now) (h2 : now ≤ 18446744073709551614) : Spec Try.prog 28 [lmV m, .int .u64 (now : Int)] (lH1 m :: bks m.L)
    (fun r H' => ∃ b, r = .slice (some ⟨b, 0, none⟩) m.n m.n ∧ H' = ⟨some b, cl (arrV m.n (fun i => Value.bool (okAt m.L now i))) 4⟩ :: lH1 m :: bks m.L) := by
  refine Spec.of (E := [(0, lmV m), (1, .int .u64 (now : Int))]) Try.func28 rfl (by kernel_rfl) Try.ntmps28 rfl rfl (fun w => ?_)
  refine WC_seq ?_
  refine WC_region ?_
  refine WL_do rfl rfl rfl (D_box (cs := [_, _, _, _, _, _]) rfl rfl rfl) ?_
  rintro _ _ ⟨b1, rfl, rfl⟩
  refine WL_val rfl rfl rfl (R_assign rfl rfl) ?_
  refine WL_nil ?_
  refine WQ_code ?_
  refine WC_seq ?_
  refine WC_region ?_
  refine WL_val rfl rfl rfl (R_fieldAddr rfl fa45_1 rfl) ?_
  refine WL_val rfl rfl rfl (R_load rfl sc42 rfl (mmY) rfl) ?_
  refine WL_val rfl rfl rfl (R_len rfl Try.underlying42 rfl) ?_
  refine WL_do rfl rfl rfl (D_make (n := m.n) rfl si85 rfl rfl (by omega) (by omega)) ?_
  rintro _ _ ⟨b2, rfl, rfl⟩
  rw [show (List.replicate m.n [Value.bool false]).flatten = arrV m.n (okF m.L now 0) from by rw [show (List.replicate m.n [Value.bool false]).flatten = List.replicate m.n (Value.bool false) from by simp, rep_arr]; exact arr_congr fun j hj => by unfold okF; simp]
  refine WL_val rfl rfl rfl (R_assign rfl rfl) ?_
  refine WL_nil ?_
  refine WQ_code ?_
  refine WC_seq ?_
  refine WC_seq ?_
  refine WC_region ?_
  refine WL_val rfl rfl rfl (R_assign rfl rfl) ?_
  refine WL_nil ?_
  refine WQ_code ?_
  refine WC_block ?_
  refine WC_loopF (G := Nat) [6, 7, 8, 13, 14, 15, 16, 17, 18, 19, 20, 21, 22, 23, 24, 25, 26, 27, 28, 29, 30, 31, 32, 33, 34, 35, 36, 37, 38, 39, 40, 41, 42, 43, 44, 45, 46] (fun k => k ≤ m.n) (fun k => [(6, .int .i64 (k : Int))]) (fun k => [⟨some b2, cl (arrV m.n (okF m.L now k)) 4⟩]) (fun k => m.n - k) (0) (Nat.zero_le _) leZ (pqY) ?_
  rintro k hk
  refine WC_seq ?_
  refine WC_seq ?_
  refine WC_region ?_
  refine WL_val rfl rfl rfl (R_move rfl rfl) ?_
  refine WL_val rfl rfl rfl (R_move rfl rfl) ?_
  refine WL_val rfl rfl rfl (R_len rfl Try.underlying85 rfl) ?_
  refine WL_val rfl rfl rfl (R_lss rfl rfl rfl) ?_
  refine WL_nil ?_
  refine WQ_code ?_
  refine WC_dec rfl (fun c1 => ?_) (fun c1 => ?_)
  · refine WC_skip ?_
    refine WQ_code ?_
    refine WC_seq ?_
    refine WC_block ?_
    refine WC_seq ?_
    refine WC_region ?_
    obtain ⟨x9, hx9⟩ := getE (T := m.L) (i := k) (by omega)
    have hf9 := hf x9 (List.mem_of_getElem? hx9)
    refine WL_val rfl rfl rfl (R_fieldAddr rfl fa45_1 rfl) ?_
    refine WL_val rfl rfl rfl (R_load rfl sc42 rfl (mmY) rfl) ?_
    refine WL_val rfl rfl rfl (R_move rfl rfl) ?_
    refine WL_val rfl rfl rfl (R_indexAddrN rfl Try.underlying42 Try.sizeOf82 rfl rfl (by omega)) ?_
    refine WL_val rfl rfl rfl (R_fieldAddr rfl fa82_4 rfl) ?_
    refine WL_val rfl rfl rfl (R_load (v := ptrB x9.p) rfl sc69 rfl (mmY) (fm_get0 encLB5 hx9 (j := 4) (by omega))) ?_
    refine WL_val rfl rfl rfl (R_move rfl rfl) ?_
    refine WL_do rfl rfl rfl (D_call (ready_at hx9 hf9.1 now hf9.2 h2) rfl rfl rfl rfl (pqY)) ?_
    rintro _ _ ⟨_, ⟨rfl, rfl⟩, rfl⟩
    refine WL_val rfl rfl rfl (R_move rfl rfl) ?_
    refine WL_val rfl rfl rfl (R_extract rfl rfl rfl) ?_
    refine WL_val rfl rfl rfl (R_extract rfl rfl rfl) ?_
    refine WL_val rfl rfl rfl (R_assign rfl rfl) ?_
    refine WL_val rfl rfl rfl (R_assign rfl rfl) ?_
    refine WL_nil ?_
    refine WQ_code ?_
    refine WC_region ?_
    refine WL_val rfl rfl rfl (R_move rfl rfl) ?_
    refine WL_val rfl rfl rfl (R_move rfl rfl) ?_
    refine WL_val rfl rfl rfl (R_move rfl rfl) ?_
    refine WL_val rfl rfl rfl (R_move rfl rfl) ?_
    refine WL_splitD (s := 33) rfl (fun c2 => ?_) (fun c2 => ?_)
    · have hrd := c2
      refine WL_val rfl rfl rfl (R_move rfl rfl) ?_
      refine WL_val rfl rfl rfl (R_eql rfl rfl rfl) ?_
      refine WL_set (s := 35) (v := .bool true) rfl (by simp) ?_
      refine WL_val rfl rfl rfl (R_pickT rfl rfl rfl) ?_
      refine WL_val rfl rfl rfl (R_move rfl rfl) ?_
      refine WL_val rfl rfl rfl (R_fieldAddr rfl fa45_1 rfl) ?_
      refine WL_val rfl rfl rfl (R_load rfl sc42 rfl (mmY) rfl) ?_
      refine WL_val rfl rfl rfl (R_move rfl rfl) ?_
      refine WL_val rfl rfl rfl (R_indexAddrN rfl Try.underlying42 Try.sizeOf82 rfl rfl (by omega)) ?_
      refine WL_val rfl rfl rfl (R_fieldAddr rfl fa82_3 rfl) ?_
      refine WL_val rfl rfl rfl (R_load (v := .bool (!x9.up)) rfl sc4 rfl (mmY) (fm_get0 encLB5 hx9 (j := 3) (by omega))) ?_
      refine WL_val rfl rfl rfl (R_not rfl rfl) ?_
      refine WL_val rfl rfl rfl (R_pickT rfl rfl rfl) ?_
      refine WL_val rfl rfl rfl (R_indexAddrN rfl Try.underlying85 Try.sizeOf4 rfl rfl (by omega)) ?_
      refine WL_do0 rfl rfl (D_store (vs := [_]) rfl Try.sizeOf4 rfl rfl rfl rfl rfl (plY) (by rw [arr_len]; omega)) ?_
      rintro _ _ rfl
      rw [arr_put (g := okF m.L now (k + 1)) (show k < m.n by omega) _ (by unfold okF okAt; rw [hx9]; simp [hrd]) (fun j hj hne => by unfold okF; rw [show decide (j < k + 1) = decide (j < k) from decide_eq_decide.2 (by omega)])]
      refine WL_nil ?_
      refine WQ_code ?_
      refine WC_region ?_
      refine WL_val rfl rfl rfl (R_move rfl rfl) ?_
      refine WL_val rfl rfl rfl (R_add rfl rfl rfl (by omega)) ?_
      refine WL_val rfl rfl rfl (R_assign rfl rfl) ?_
      refine WL_nil ?_
      refine WQ_nextF (k + 1) (by omega) (by omega) leZ (psZ) rfl (pqY)
    · have hrd := c2
      refine WL_skip rfl rfl rfl ?_
      refine WL_skip rfl rfl rfl ?_
      refine WL_val rfl rfl rfl (R_pickF rfl rfl rfl) ?_
      refine WL_val rfl rfl rfl (R_move rfl rfl) ?_
      refine WL_skip rfl rfl rfl ?_
      refine WL_skip rfl rfl rfl ?_
      refine WL_skip rfl rfl rfl ?_
      refine WL_skip rfl rfl rfl ?_
      refine WL_skip rfl rfl rfl ?_
      refine WL_skip rfl rfl rfl ?_
      refine WL_skip rfl rfl rfl ?_
      refine WL_val rfl rfl rfl (R_pickF rfl rfl rfl) ?_
      refine WL_val rfl rfl rfl (R_indexAddrN rfl Try.underlying85 Try.sizeOf4 rfl rfl (by omega)) ?_
      refine WL_do0 rfl rfl (D_store (vs := [_]) rfl Try.sizeOf4 rfl rfl rfl rfl rfl (plY) (by rw [arr_len]; omega)) ?_
      rintro _ _ rfl
      rw [arr_put (g := okF m.L now (k + 1)) (show k < m.n by omega) _ (by unfold okF okAt; rw [hx9]; simp [hrd]) (fun j hj hne => by unfold okF; rw [show decide (j < k + 1) = decide (j < k) from decide_eq_decide.2 (by omega)])]
      refine WL_nil ?_
      refine WQ_code ?_
      refine WC_region ?_
      refine WL_val rfl rfl rfl (R_move rfl rfl) ?_
      refine WL_val rfl rfl rfl (R_add rfl rfl rfl (by omega)) ?_
      refine WL_val rfl rfl rfl (R_assign rfl rfl) ?_
      refine WL_nil ?_
      refine WQ_nextF (k + 1) (by omega) (by omega) leZ (psZ) rfl (pqY)
  · have hkn : k = m.n := by omega
    rw [hkn, show arrV m.n (okF m.L now m.n) = arrV m.n (fun i => Value.bool (okAt m.L now i)) from arr_congr fun j hj => by unfold okF; simp [hj]]
    refine WC_exit ?_
    refine WQ_code ?_
    refine WC_seq ?_
    refine WC_region ?_
    refine WL_val rfl rfl rfl (R_move rfl rfl) ?_
    refine WL_val rfl rfl rfl (R_assign rfl rfl) ?_
    refine WL_nil ?_
    refine WQ_code ?_
    refine WC_ret ?_
    refine WQ_ret rfl rfl (.cons (.tmp rfl) .nil) rfl (by
        exact ⟨_, rfl, rfl⟩) (pqY)
theorem lchoose_turn (m : Lm) (N : Nat) (hm : LmIs N m) (hk : m.kd = 1) (now b0 : Nat) (key : ByteArray) : Spec Try.prog 27 [lmV m, .slice (some ⟨b0, 0, none⟩) m.n m.n, .string key] [⟨some b0, cl (arrV m.n (fun i => Value.bool (okAt m.L now i))) 4⟩, lH1 m] (fun r H' => ∃ lo2 lc2 lt2, r = .tuple #[lmV { m with lo := lo2, lc := lc2, tl := lt2, L := chL m.kd m.L m.nx key (cand m.L now), nx := chN m.kd m.n m.nx (cand m.L now) }, .int .i64 (chI m.kd m.L m.nx key (cand m.L now))] ∧ H' = [lH1 { m with lo := lo2, lc := lc2, tl := lt2, L := chL m.kd m.L m.nx key (cand m.L now), nx := chN m.kd m.n m.nx (cand m.L now) }, lH1 m] ∧ Own (some lo2) m.n lc2 5 ((chL m.kd m.L m.nx key (cand m.L now)).flatMap encLB) lt2) := by
  have hnn := hm.n
  have hnx := hm.nx
  have hon := hm.o1
  refine Spec.of (E := [(0, lmV m), (1, .slice (some ⟨b0, 0, none⟩) m.n m.n), (2, .string key)]) Try.func27 rfl (by kernel_rfl) Try.ntmps27 rfl rfl (fun w => ?_)
  refine WC_seq ?_
  refine WC_region ?_
  refine WL_do rfl rfl rfl (D_box (cs := [_, _, _, _, _, _]) rfl rfl rfl) ?_
  rintro _ _ ⟨b1, rfl, rfl⟩
  refine WL_do rfl rfl rfl (D_alloc rfl zv45) ?_
  rintro _ _ ⟨b2, rfl, rfl⟩
  refine WL_val rfl rfl rfl (R_assign rfl rfl) ?_
  refine WL_nil ?_
  refine WQ_code ?_
  refine WC_seq ?_
  refine WC_region ?_
  refine WL_val rfl rfl rfl (R_assign rfl rfl) ?_
  refine WL_val rfl rfl rfl (R_assign rfl rfl) ?_
  refine WL_nil ?_
  refine WQ_code ?_
  refine WC_seq ?_
  refine WC_region ?_
  refine WL_val rfl rfl rfl (R_fieldAddr rfl fa45_1 rfl) ?_
  refine WL_val rfl rfl rfl (R_load rfl sc42 rfl (mmY) rfl) ?_
  refine WL_none 82 ?_
  refine WL_do rfl rfl rfl (D_appendO rfl si42 rfl (Own.empty 5) plY rfl hon mmY (encLB_one _) (by omega) (by omega)) ?_
  rintro _ _ ⟨lo2, lc2, lt2, rfl, ol2, rfl⟩
  rw [Nat.zero_add, List.nil_append] at ol2
  rw [Nat.zero_add, List.nil_append]
  obtain ⟨w2, rfl⟩ := ol2.some_of (by omega)
  refine WL_val rfl rfl rfl (R_fieldAddr rfl fa45_1 rfl) ?_
  refine WL_do0 rfl rfl (D_store (vs := [_]) rfl Try.sizeOf42 rfl rfl rfl rfl rfl (plY) (by exact Nat.le_of_ble_eq_true rfl)) ?_
  rintro _ _ rfl
  refine WL_nil ?_
  refine WQ_code ?_
  refine WC_seq ?_
  refine WC_region ?_
  refine WL_val rfl rfl rfl (R_fieldAddr rfl fa45_1 rfl) ?_
  refine WL_val rfl rfl rfl (R_load rfl sc42 rfl (mmY) rfl) ?_
  refine WL_val rfl rfl rfl (R_len rfl Try.underlying42 rfl) ?_
  refine WL_val rfl rfl rfl (R_assign rfl rfl) ?_
  refine WL_nil ?_
  refine WQ_code ?_
  refine WC_seq ?_
  refine WC_seq ?_
  refine WC_region ?_
  refine WL_val rfl rfl rfl (R_fieldAddr rfl fa45_0 rfl) ?_
  refine WL_val rfl rfl rfl (R_load rfl sc28 rfl (mmY) rfl) ?_
  refine WL_val rfl rfl rfl (R_eql rfl rfl rfl) ?_
  refine WL_nil ?_
  refine WQ_code ?_
  refine WC_dT rfl (by omega) ?_
  refine WC_seq ?_
  refine WC_seq ?_
  refine WC_region ?_
  refine WL_val rfl rfl rfl (R_assign rfl rfl) ?_
  refine WL_nil ?_
  refine WQ_code ?_
  refine WC_block ?_
  refine WC_loopF (G := Nat) [7, 11, 12, 27, 28, 29, 30, 31, 32, 33, 34, 35, 36, 37, 38, 39, 40, 41, 42, 43, 44, 45, 46, 47, 48] (fun k => k ≤ m.n ∧ ∀ j, j < k → okAt m.L now ((m.nx + j) % m.n) = false) (fun k => [(11, .int .i64 (k : Int))]) (fun k => []) (fun k => m.n - k) (0) (⟨Nat.zero_le _, fun j hj => by omega⟩) leZ (pqY) ?_
  rintro k ⟨hk0, hno⟩
  refine WC_seq ?_
  refine WC_seq ?_
  refine WC_region ?_
  refine WL_val rfl rfl rfl (R_move rfl rfl) ?_
  refine WL_val rfl rfl rfl (R_move rfl rfl) ?_
  refine WL_val rfl rfl rfl (R_lss rfl rfl rfl) ?_
  refine WL_nil ?_
  refine WQ_code ?_
  refine WC_dec rfl (fun c1 => ?_) (fun c1 => ?_)
  · refine WC_skip ?_
    refine WQ_code ?_
    refine WC_seq ?_
    refine WC_block ?_
    refine WC_seq ?_
    refine WC_region ?_
    refine WL_val rfl rfl rfl (R_fieldAddr rfl fa45_2 rfl) ?_
    refine WL_val rfl rfl rfl (R_load rfl sc3 rfl (mmY) rfl) ?_
    refine WL_val rfl rfl rfl (R_move rfl rfl) ?_
    refine WL_val rfl rfl rfl (R_addR (r := ((m.nx + k : Nat) : Int)) rfl rfl rfl (by rw [wrap64_in (by omega) (by omega)]; omega)) ?_
    refine WL_val rfl rfl rfl (R_move rfl rfl) ?_
    refine WL_val rfl rfl rfl (R_remR (r := (((m.nx + k) % m.n : Nat) : Int)) rfl rfl rfl (by omega) (remN)) ?_
    refine WL_val rfl rfl rfl (R_assign rfl rfl) ?_
    refine WL_nil ?_
    refine WQ_code ?_
    refine WC_seq ?_
    refine WC_region ?_
    refine WL_val rfl rfl rfl (R_move rfl rfl) ?_
    refine WL_val rfl rfl rfl (R_move rfl rfl) ?_
    refine WL_val rfl rfl rfl (R_indexAddrN rfl Try.underlying85 Try.sizeOf4 rfl rfl (by exact Nat.mod_lt _ (by omega))) ?_
    refine WL_val rfl rfl rfl (R_load (v := .bool (okAt m.L now ((m.nx + k) % m.n))) rfl sc4 rfl (mmY) (arr_get (fun i => Value.bool (okAt m.L now i)) (Nat.mod_lt (m.nx + k) (show 0 < m.n by omega)))) ?_
    refine WL_nil ?_
    refine WQ_code ?_
    refine WC_if rfl (fun c2 => ?_) (fun c2 => ?_)
    · have hok := c2
      have ht := turn_hit hm.hn (show k < m.n by omega) hnx hno hok
      have hne : cand m.L now ≠ [] := fun e => by have : ((((m.nx + k) % m.n : Nat)) : Int) ∈ cand m.L now := candK_mem.2 ⟨by rw [hm.hn]; exact Nat.mod_lt _ (by omega), hok⟩; rw [e] at this; cases this
      have hil := Nat.mod_lt (m.nx + k) (show 0 < m.n by omega)
      have e1 : chI m.kd m.L m.nx key (cand m.L now) = (((m.nx + k) % m.n : Nat) : Int) := by unfold chI pickI; rw [if_neg hne, if_pos hk, ht]
      have e2 : chN m.kd m.n m.nx (cand m.L now) = ((m.nx + k) % m.n + 1) % m.n := by unfold chN pickN; rw [if_neg hne, if_pos hk, ht, turn_next hil]
      have e3 : chL m.kd m.L m.nx key (cand m.L now) = m.L := by unfold chL; rw [if_pos (.inl hk)]
      refine WC_seq ?_
      refine WC_region ?_
      refine WL_val rfl rfl rfl (R_move rfl rfl) ?_
      refine WL_val rfl rfl rfl (R_addR (r := (((m.nx + k) % m.n + 1 : Nat) : Int)) rfl rfl rfl (by have h9 := Nat.mod_lt (m.nx + k) (show 0 < m.n by omega); rw [wrap64_in (by omega) (by omega)]; omega)) ?_
      refine WL_val rfl rfl rfl (R_move rfl rfl) ?_
      refine WL_val rfl rfl rfl (R_remR (r := ((((m.nx + k) % m.n + 1) % m.n : Nat) : Int)) rfl rfl rfl (by omega) (remN)) ?_
      refine WL_val rfl rfl rfl (R_fieldAddr rfl fa45_2 rfl) ?_
      refine WL_do0 rfl rfl (D_store (vs := [_]) rfl Try.sizeOf3 rfl rfl rfl rfl rfl (plY) (by exact Nat.le_of_ble_eq_true rfl)) ?_
      rintro _ _ rfl
      refine WL_nil ?_
      refine WQ_code ?_
      refine WC_seq ?_
      refine WC_region ?_
      refine WL_val rfl rfl rfl (R_loadA (vs := [_, _, _, _, _, _]) rfl ag45 rfl (mmY) rfl (atZ)) ?_
      refine WL_val rfl rfl rfl (R_move rfl rfl) ?_
      refine WL_do0 rfl rfl (D_store (vs := [_, _, _, _, _, _]) rfl Try.sizeOf45 rfl rfl rfl rfl rfl (plY) (by exact Nat.le_of_ble_eq_true rfl)) ?_
      rintro _ _ rfl
      refine WL_val rfl rfl rfl (R_assign rfl rfl) ?_
      refine WL_nil ?_
      refine WQ_code ?_
      refine WC_ret ?_
      refine WQ_ret rfl rfl (.cons (.cell (vs := [_, _, _, _, _, _]) rfl ag45 (mmY) rfl (atZ)) (.cons (.tmp rfl) .nil)) rfl (by
          refine ⟨w2, lc2, lt2, ?_, ?_, ?_⟩
          · rw [e1, e2, e3]; rfl
          · rw [e2, e3]
          · rw [e3]; exact ol2) (pqY)
    · have hnok := c2
      refine WC_skip ?_
      refine WQ_code ?_
      refine WC_region ?_
      refine WL_val rfl rfl rfl (R_move rfl rfl) ?_
      refine WL_val rfl rfl rfl (R_add rfl rfl rfl (by omega)) ?_
      refine WL_val rfl rfl rfl (R_assign rfl rfl) ?_
      refine WL_nil ?_
      refine WQ_nextF (k + 1) (⟨by omega, fun j hj => by rcases Nat.lt_or_ge j k with h9 | h9; exact hno j h9; (obtain rfl : j = k := by omega); exact hnok⟩) (by omega) leZ (psZ) rfl (pqY)
  · have hkn : k = m.n := by omega
    have hc := turn_none hm.hn hnx (fun j hj => hno j (by omega))
    have e1 : chI m.kd m.L m.nx key (cand m.L now) = -1 := by unfold chI; rw [if_pos hc]
    have e2 : chN m.kd m.n m.nx (cand m.L now) = m.nx := by unfold chN; rw [if_pos hc]
    have e3 : chL m.kd m.L m.nx key (cand m.L now) = m.L := by unfold chL; rw [if_pos (.inl hk)]
    refine WC_exit ?_
    refine WQ_code ?_
    refine WC_seq ?_
    refine WC_region ?_
    refine WL_val rfl rfl rfl (R_loadA (vs := [_, _, _, _, _, _]) rfl ag45 rfl (mmY) rfl (atZ)) ?_
    refine WL_do0 rfl rfl (D_store (vs := [_, _, _, _, _, _]) rfl Try.sizeOf45 rfl rfl rfl rfl rfl (plY) (by exact Nat.le_of_ble_eq_true rfl)) ?_
    rintro _ _ rfl
    refine WL_val rfl rfl rfl (R_assign rfl rfl) ?_
    refine WL_nil ?_
    refine WQ_code ?_
    refine WC_ret ?_
    refine WQ_ret rfl rfl (.cons (.cell (vs := [_, _, _, _, _, _]) rfl ag45 (mmY) rfl (atZ)) (.cons (.tmp rfl) .nil)) rfl (by
        refine ⟨w2, lc2, lt2, ?_, ?_, ?_⟩
        · rw [e1, e2, e3]; rfl
        · rw [e2, e3]
        · rw [e3]; exact ol2) (pqY)
theorem lchoose_best (m : Lm) (N : Nat) (hm : LmIs N m) (hN : N ≤ 9000) (hk : m.kd ≠ 1) (hk4 : 1 ≤ m.kd ∧ m.kd ≤ 4) (hw : ∀ x ∈ m.L, 1 ≤ x.w ∧ x.w ≤ 100) (ha : ∀ x ∈ m.L, -(N : Int) ≤ x.act ∧ x.act ≤ N) (now b0 : Nat) (key : ByteArray) (hkey : key.size ≤ 64) : Spec Try.prog 27 [lmV m, .slice (some ⟨b0, 0, none⟩) m.n m.n, .string key] [⟨some b0, cl (arrV m.n (fun i => Value.bool (okAt m.L now i))) 4⟩, lH1 m] (fun r H' => ∃ lo2 lc2 lt2, r = .tuple #[lmV { m with lo := lo2, lc := lc2, tl := lt2, L := chL m.kd m.L m.nx key (cand m.L now), nx := chN m.kd m.n m.nx (cand m.L now) }, .int .i64 (chI m.kd m.L m.nx key (cand m.L now))] ∧ H' = [lH1 { m with lo := lo2, lc := lc2, tl := lt2, L := chL m.kd m.L m.nx key (cand m.L now), nx := chN m.kd m.n m.nx (cand m.L now) }, lH1 m] ∧ Own (some lo2) m.n lc2 5 ((chL m.kd m.L m.nx key (cand m.L now)).flatMap encLB) lt2) := by
  have hnn := hm.n
  have hon := hm.o1
  have hhn := hm.hn
  refine Spec.of (E := [(0, lmV m), (1, .slice (some ⟨b0, 0, none⟩) m.n m.n), (2, .string key)]) Try.func27 rfl (by kernel_rfl) Try.ntmps27 rfl rfl (fun w => ?_)
  refine WC_seq ?_
  refine WC_region ?_
  refine WL_do rfl rfl rfl (D_box (cs := [_, _, _, _, _, _]) rfl rfl rfl) ?_
  rintro _ _ ⟨b1, rfl, rfl⟩
  refine WL_do rfl rfl rfl (D_alloc rfl zv45) ?_
  rintro _ _ ⟨b2, rfl, rfl⟩
  refine WL_val rfl rfl rfl (R_assign rfl rfl) ?_
  refine WL_nil ?_
  refine WQ_code ?_
  refine WC_seq ?_
  refine WC_region ?_
  refine WL_val rfl rfl rfl (R_assign rfl rfl) ?_
  refine WL_val rfl rfl rfl (R_assign rfl rfl) ?_
  refine WL_nil ?_
  refine WQ_code ?_
  refine WC_seq ?_
  refine WC_region ?_
  refine WL_val rfl rfl rfl (R_fieldAddr rfl fa45_1 rfl) ?_
  refine WL_val rfl rfl rfl (R_load rfl sc42 rfl (mmY) rfl) ?_
  refine WL_none 82 ?_
  refine WL_do rfl rfl rfl (D_appendO rfl si42 rfl (Own.empty 5) plY rfl hon mmY (encLB_one _) (by omega) (by omega)) ?_
  rintro _ _ ⟨lo2, lc2, lt2, rfl, ol2, rfl⟩
  rw [Nat.zero_add, List.nil_append] at ol2
  rw [Nat.zero_add, List.nil_append]
  obtain ⟨w2, rfl⟩ := ol2.some_of (by omega)
  refine WL_val rfl rfl rfl (R_fieldAddr rfl fa45_1 rfl) ?_
  refine WL_do0 rfl rfl (D_store (vs := [_]) rfl Try.sizeOf42 rfl rfl rfl rfl rfl (plY) (by exact Nat.le_of_ble_eq_true rfl)) ?_
  rintro _ _ rfl
  refine WL_nil ?_
  refine WQ_code ?_
  refine WC_seq ?_
  refine WC_region ?_
  refine WL_val rfl rfl rfl (R_fieldAddr rfl fa45_1 rfl) ?_
  refine WL_val rfl rfl rfl (R_load rfl sc42 rfl (mmY) rfl) ?_
  refine WL_val rfl rfl rfl (R_len rfl Try.underlying42 rfl) ?_
  refine WL_val rfl rfl rfl (R_assign rfl rfl) ?_
  refine WL_nil ?_
  refine WQ_code ?_
  refine WC_seq ?_
  refine WC_seq ?_
  refine WC_region ?_
  refine WL_val rfl rfl rfl (R_fieldAddr rfl fa45_0 rfl) ?_
  refine WL_val rfl rfl rfl (R_load rfl sc28 rfl (mmY) rfl) ?_
  refine WL_val rfl rfl rfl (R_eql rfl rfl rfl) ?_
  refine WL_nil ?_
  refine WQ_code ?_
  refine WC_dF rfl (by omega) ?_
  refine WC_skip ?_
  refine WQ_code ?_
  refine WC_seq ?_
  refine WC_seq ?_
  refine WC_region ?_
  refine WL_val rfl rfl rfl (R_assign rfl rfl) ?_
  refine WL_nil ?_
  refine WQ_code ?_
  refine WC_block ?_
  refine WC_loopF (G := ChV) [8, 9, 13, 14, 15, 16, 50, 51, 52, 53, 54, 55, 56, 57, 58, 59, 60, 61, 62, 63, 64, 65, 66, 67, 68, 69, 70, 71, 72, 73, 74, 75, 76, 77, 78, 79, 80, 81, 82, 83, 84, 85, 86, 87, 88, 89, 90, 91, 92, 93, 94, 95, 96, 97, 98, 99, 100, 101, 102, 103, 104, 105, 106, 107, 108, 109, 110, 111, 112, 113, 114, 115, 116, 117, 118, 119, 120, 121, 122, 123, 124, 125, 126] (fun y => y.i ≤ m.n ∧ y.l = candK m.L now y.i ∧ ((y.l = [] ∧ y.b = -1) ∨ ∃ j9 : Nat, sel (lawQ m.kd m.L key) y.l = (j9 : Int) ∧ (j9 : Int) ∈ y.l ∧ y.b = (j9 : Int))) (fun y => [(13, .int .i64 (y.i : Int)), (8, .int .i64 y.b), (9, .int .i64 (sumW m.L y.l))]) (fun y => [⟨some w2, cl ((bump m.L y.l).flatMap encLB ++ lt2) 82⟩]) (fun y => m.n - y.i) (⟨0, -1, []⟩) (⟨Nat.zero_le _, rfl, .inl ⟨rfl, rfl⟩⟩) leZ (pqY) ?_
  rintro y ⟨hyi, hyl, hyb⟩
  refine WC_seq ?_
  refine WC_seq ?_
  refine WC_region ?_
  refine WL_val rfl rfl rfl (R_move rfl rfl) ?_
  refine WL_val rfl rfl rfl (R_move rfl rfl) ?_
  refine WL_val rfl rfl rfl (R_lss rfl rfl rfl) ?_
  refine WL_nil ?_
  refine WQ_code ?_
  refine WC_dec rfl (fun c1 => ?_) (fun c1 => ?_)
  · refine WC_skip ?_
    refine WQ_code ?_
    refine WC_seq ?_
    refine WC_block ?_
    refine WC_seq ?_
    refine WC_seq ?_
    refine WC_region ?_
    refine WL_val rfl rfl rfl (R_move rfl rfl) ?_
    refine WL_val rfl rfl rfl (R_move rfl rfl) ?_
    refine WL_val rfl rfl rfl (R_indexAddrN rfl Try.underlying85 Try.sizeOf4 rfl rfl (by omega)) ?_
    refine WL_val rfl rfl rfl (R_load (v := .bool (okAt m.L now y.i)) rfl sc4 rfl (mmY) (arr_get (fun i => Value.bool (okAt m.L now i)) (show y.i < m.n by omega))) ?_
    refine WL_val rfl rfl rfl (R_not rfl rfl) ?_
    refine WL_nil ?_
    refine WQ_code ?_
    refine WC_if rfl (fun c2 => ?_) (fun c2 => ?_)
    · have hok : okAt m.L now y.i = false := by simpa using c2
      have hln : y.l = candK m.L now (y.i + 1) := by rw [candK_next, hok, if_neg (by decide), List.append_nil]; exact hyl
      refine WC_exit ?_
      refine WQ_code ?_
      refine WC_region ?_
      refine WL_val rfl rfl rfl (R_move rfl rfl) ?_
      refine WL_val rfl rfl rfl (R_add rfl rfl rfl (by omega)) ?_
      refine WL_val rfl rfl rfl (R_assign rfl rfl) ?_
      refine WL_nil ?_
      refine WQ_nextF (⟨y.i + 1, y.b, y.l⟩) (⟨by dsimp only; omega, hln, hyb⟩) (by dsimp only; omega) leZ (psZ) rfl (pqY)
    · have hok : okAt m.L now y.i = true := by simpa using c2
      have hln : y.l ++ [(y.i : Int)] = candK m.L now (y.i + 1) := by rw [candK_next, if_pos hok, hyl]
      refine WC_skip ?_
      refine WQ_code ?_
      refine WC_seq ?_
      refine WC_region ?_
      refine WL_val rfl rfl rfl (R_fieldAddr rfl fa45_1 rfl) ?_
      refine WL_val rfl rfl rfl (R_load rfl sc42 rfl (mmY) rfl) ?_
      refine WL_val rfl rfl rfl (R_move rfl rfl) ?_
      refine WL_val rfl rfl rfl (R_indexAddrN rfl Try.underlying42 Try.sizeOf82 rfl rfl (by omega)) ?_
      refine WL_val rfl rfl rfl (R_assign rfl rfl) ?_
      refine WL_nil ?_
      refine WQ_code ?_
      refine WC_seq ?_
      refine WC_drawE [⟨some w2, _⟩] [(0, false), (1, false), (2, false), (3, false), (4, true), (5, false), (6, false), (7, false), (8, true), (9, false), (10, false), (11, false), (12, false), (13, false), (14, true)] [(15, true), (16, true), (17, true), (18, false), (19, true)] followsMixed rfl rfl (by kernel_rfl) (pqY) ?_
      obtain ⟨x9, hxo⟩ := getE (T := m.L) (i := y.i) (by omega)
      have hx9 : (bump m.L y.l)[y.i]? = some x9 := by rw [hyl, bumpK _ (by omega), hxo]; simp
      have hxw := hw x9 (List.mem_of_getElem? hxo)
      have hxs := hm.sh x9 (List.mem_of_getElem? hxo)
      have hxa := ha x9 (List.mem_of_getElem? hxo)
      have hxl : y.i < (bump m.L y.l).length := by rw [bump_len]; omega
      have hli : y.l.length ≤ y.i := by rw [hyl]; exact candK_len _ _ _
      have hsw := sumW_in m.L hw y.l (fun a h9 => by rw [hyl] at h9; obtain ⟨i, h8, rfl⟩ := List.mem_map.1 h9; have h7 := (candK_mem.1 h9).1; obtain ⟨x, hx⟩ := getE (T := m.L) (i := i) (by omega); exact ⟨i, x, rfl, hx⟩)
      have hsn : sumW m.L (y.l ++ [(y.i : Int)]) = sumW m.L y.l + x9.w := by unfold sumW; rw [List.foldl_append, List.foldl_cons, List.foldl_nil, gB_at hxo]
      have hbn : bump m.L (y.l ++ [(y.i : Int)]) = (bump m.L y.l).set y.i { x9 with sh := x9.sh + x9.w } := by rw [← bump1_at hx9]; unfold bump; rw [List.foldl_append]; rfl
      have hx10 : (bump m.L (y.l ++ [(y.i : Int)]))[y.i]? = some { x9 with sh := x9.sh + x9.w } := by rw [hbn, List.getElem?_set, if_pos rfl, if_pos hxl]
      refine WZ_val rfl rfl rfl rfl (R_move rfl rfl) ?_
      refine WZ_val rfl rfl rfl rfl (R_move rfl rfl) ?_
      refine WZ_val rfl rfl rfl rfl (R_nilCheck rfl rfl) ?_
      refine WZ_val rfl rfl rfl rfl (R_fieldAddr rfl fa82_1 rfl) ?_
      refine WZ_early rfl rfl rfl rfl (R_load (v := .int .i64 x9.sh) rfl sc3 rfl (mmY) (fm_get0 encLB5 hx9 (j := 1) (by omega))) ?_
      refine WZ_val rfl rfl rfl rfl (R_move rfl rfl) ?_
      refine WZ_val rfl rfl rfl rfl (R_nilCheck rfl rfl) ?_
      refine WZ_val rfl rfl rfl rfl (R_fieldAddr rfl fa82_0 rfl) ?_
      refine WZ_early rfl rfl rfl rfl (R_load (v := .int .i64 x9.w) rfl sc3 rfl (mmY) (fm_get0 encLB5 hx9 (j := 0) (by omega))) ?_
      refine WZ_val rfl rfl rfl rfl (R_add rfl rfl rfl (by omega)) ?_
      refine WZ_val rfl rfl rfl rfl (R_move rfl rfl) ?_
      refine WZ_val rfl rfl rfl rfl (R_move rfl rfl) ?_
      refine WZ_val rfl rfl rfl rfl (R_nilCheck rfl rfl) ?_
      refine WZ_val rfl rfl rfl rfl (R_fieldAddr rfl fa82_0 rfl) ?_
      refine WZ_early rfl rfl rfl rfl (R_load (v := .int .i64 x9.w) rfl sc3 rfl (mmY) (fm_get0 encLB5 hx9 (j := 0) (by omega))) ?_
      refine WZ_rest ?_
      refine WM_val rfl rfl rfl rfl (R_add rfl rfl rfl (by omega)) ?_
      refine WM_val rfl rfl rfl rfl (R_nilCheck rfl rfl) ?_
      refine WM_val rfl rfl rfl rfl (R_fieldAddr rfl fa82_1 rfl) ?_
      refine WM_do0 rfl rfl rfl (D_store (vs := [_]) rfl Try.sizeOf3 rfl rfl rfl rfl rfl (plY) (by exact fm_room0 encLB5 hxl (j := 1) (by omega))) ?_
      rintro _ _ rfl
      refine ⟨⟨_, pqY⟩, ?_⟩
      have hput := fm_put0 encLB5 ({ x9 with sh := x9.sh + x9.w } : Bk) hx9 (j := 1) (vs := [.int .i64 (x9.sh + x9.w)]) (by simp) rfl (tl := lt2)
      rw [hput, ← hbn]
      refine WM_val rfl rfl rfl rfl (R_assign rfl rfl) ?_
      refine WM_nil ?_
      refine WQ_code ?_
      refine WC_seq ?_
      refine WC_seq ?_
      refine WC_region ?_
      refine WL_set (s := 9) (v := .int .i64 (sumW m.L (y.l ++ [(y.i : Int)]))) rfl (congrArg (Value.int .i64) hsn.symm) ?_
      refine WL_val rfl rfl rfl (R_move rfl rfl) ?_
      refine WL_val rfl rfl rfl (R_lss rfl rfl rfl) ?_
      refine WL_nil ?_
      refine WQ_code ?_
      refine WC_dec rfl (fun c3 => ?_) (fun c3 => ?_)
      · have hle : y.l = [] := by rcases hyb with h9 | ⟨j9, h9, _, h8⟩; exact h9.1; omega
        refine WC_seq ?_
        refine WC_region ?_
        refine WL_val rfl rfl rfl (R_move rfl rfl) ?_
        refine WL_val rfl rfl rfl (R_assign rfl rfl) ?_
        refine WL_nil ?_
        refine WQ_code ?_
        refine WC_exit ?_
        refine WQ_code ?_
        refine WC_region ?_
        refine WL_val rfl rfl rfl (R_move rfl rfl) ?_
        refine WL_val rfl rfl rfl (R_add rfl rfl rfl (by omega)) ?_
        refine WL_val rfl rfl rfl (R_assign rfl rfl) ?_
        refine WL_nil ?_
        refine WQ_nextF (⟨y.i + 1, (y.i : Int), y.l ++ [(y.i : Int)]⟩) (⟨by dsimp only; omega, hln, .inr ⟨y.i, by dsimp only; rw [hle]; rfl, by simp, rfl⟩⟩) (by dsimp only; omega) leZ (psZ) rfl (pqY)
      · obtain ⟨j9, hb9, hj9, hne9, hs9⟩ : ∃ j9 : Nat, y.b = (j9 : Int) ∧ (j9 < y.i ∧ okAt m.L now j9 = true) ∧ y.l ≠ [] ∧ sel (lawQ m.kd m.L key) y.l = (j9 : Int) := by rcases hyb with h9 | ⟨j9, h9, h8, h7⟩; omega; exact ⟨j9, h7, by rw [hyl] at h8; exact candK_mem.1 h8, (fun e => by rw [e] at h8; cases h8), h9⟩
        refine WC_set (s := 8) (v := .int .i64 (j9 : Int)) rfl (congrArg (Value.int .i64) hb9) ?_
        refine WC_skip ?_
        refine WQ_code ?_
        refine WC_seq ?_
        refine WC_region ?_
        obtain ⟨y0, hy0⟩ := getE (T := m.L) (i := j9) (by omega)
        have hyw := hw y0 (List.mem_of_getElem? hy0)
        have hya := ha y0 (List.mem_of_getElem? hy0)
        have hy9 : (bump m.L (y.l ++ [(y.i : Int)]))[j9]? = some (bumpF y0) := by rw [hbn, List.getElem?_set, if_neg (by omega), hyl, bumpK _ (by omega), hy0]; simp [hj9.1, hj9.2]
        have hm1 := mul_in (show -10000 ≤ x9.act by omega) (by omega) hyw.1 hyw.2
        have hm2 := mul_in (show -10000 ≤ y0.act by omega) (by omega) hxw.1 hxw.2
        refine WL_val rfl rfl rfl (R_fieldAddr rfl fa45_1 rfl) ?_
        refine WL_val rfl rfl rfl (R_load rfl sc42 rfl (mmY) rfl) ?_
        refine WL_val rfl rfl rfl (R_move rfl rfl) ?_
        refine WL_val rfl rfl rfl (R_indexAddrN rfl Try.underlying42 Try.sizeOf82 rfl rfl (by omega)) ?_
        refine WL_val rfl rfl rfl (R_loadA (vs := encLB (bumpF y0)) rfl ag82 rfl (mmY) rfl (fm_at0 encLB5 hy9 (j := 0) (vs := encLB (bumpF y0)) (fun j v h => by rw [Nat.zero_add]; exact h) (Nat.le_refl _))) ?_
        refine WL_do rfl rfl rfl (D_alloc rfl zv82) ?_
        rintro _ _ ⟨b3, rfl, rfl⟩
        refine WL_do0 rfl rfl (D_store (vs := [_, _, _, _, _]) rfl Try.sizeOf82 rfl rfl rfl rfl rfl (plY) (by exact Nat.le_of_ble_eq_true rfl)) ?_
        rintro _ _ rfl
        refine WL_nil ?_
        refine WQ_code ?_
        refine WC_seq ?_
        refine WC_draw _ [(0, true), (1, true), (2, true), (3, true), (4, true), (5, true), (6, true), (7, true), (8, true), (9, true), (10, true), (11, true), (12, true), (13, true), (14, true), (15, true)] followsMixed rfl rfl (by kernel_rfl) .all ?_
        refine WM_val rfl rfl rfl rfl (R_move rfl rfl) ?_
        refine WM_val rfl rfl rfl rfl (R_nilCheck rfl rfl) ?_
        refine WM_val rfl rfl rfl rfl (R_fieldAddr rfl fa82_2 rfl) ?_
        refine WM_val rfl rfl rfl rfl (R_load (v := .int .i64 x9.act) rfl sc3 rfl (mmY) (fm_get0 encLB5 hx10 (j := 2) (by omega))) ?_
        refine WM_val rfl rfl rfl rfl (R_fieldAddr rfl fa82_0 rfl) ?_
        refine WM_val rfl rfl rfl rfl (R_load (v := .int .i64 y0.w) rfl sc3 rfl (mmY) (rfl)) ?_
        refine WM_val rfl rfl rfl rfl (R_mul rfl rfl rfl (by omega)) ?_
        refine WM_val rfl rfl rfl rfl (R_fieldAddr rfl fa82_2 rfl) ?_
        refine WM_val rfl rfl rfl rfl (R_load (v := .int .i64 y0.act) rfl sc3 rfl (mmY) (rfl)) ?_
        refine WM_val rfl rfl rfl rfl (R_move rfl rfl) ?_
        refine WM_val rfl rfl rfl rfl (R_nilCheck rfl rfl) ?_
        refine WM_val rfl rfl rfl rfl (R_fieldAddr rfl fa82_0 rfl) ?_
        refine WM_val rfl rfl rfl rfl (R_load (v := .int .i64 x9.w) rfl sc3 rfl (mmY) (fm_get0 encLB5 hx10 (j := 0) (by omega))) ?_
        refine WM_val rfl rfl rfl rfl (R_mul rfl rfl rfl (by omega)) ?_
        refine WM_val rfl rfl rfl rfl (R_lss rfl rfl rfl) ?_
        refine WM_val rfl rfl rfl rfl (R_assign rfl rfl) ?_
        refine WM_nil ?_
        refine WQ_code ?_
        refine WC_seq ?_
        refine WC_seq ?_
        refine WC_region ?_
        refine WL_val rfl rfl rfl (R_fieldAddr rfl fa45_0 rfl) ?_
        refine WL_val rfl rfl rfl (R_load rfl sc28 rfl (mmY) rfl) ?_
        refine WL_val rfl rfl rfl (R_eql rfl rfl rfl) ?_
        refine WL_nil ?_
        refine WQ_code ?_
        refine WC_dec rfl (fun c4 => ?_) (fun c4 => ?_)
        · refine WC_draw _ [(0, true), (1, true), (2, true), (3, true), (4, true), (5, true), (6, true), (7, true)] followsMixed rfl rfl (by kernel_rfl) .all ?_
          refine WM_val rfl rfl rfl rfl (R_move rfl rfl) ?_
          refine WM_val rfl rfl rfl rfl (R_nilCheck rfl rfl) ?_
          refine WM_val rfl rfl rfl rfl (R_fieldAddr rfl fa82_1 rfl) ?_
          refine WM_val rfl rfl rfl rfl (R_load (v := .int .i64 (x9.sh + x9.w)) rfl sc3 rfl (mmY) (fm_get0 encLB5 hx10 (j := 1) (by omega))) ?_
          refine WM_val rfl rfl rfl rfl (R_fieldAddr rfl fa82_1 rfl) ?_
          refine WM_val rfl rfl rfl rfl (R_load (v := .int .i64 (y0.sh + y0.w)) rfl sc3 rfl (mmY) (rfl)) ?_
          refine WM_val rfl rfl rfl rfl (R_gtr rfl rfl rfl) ?_
          refine WM_val rfl rfl rfl rfl (R_assign rfl rfl) ?_
          refine WM_nil ?_
          refine WQ_code ?_
          refine WC_seq ?_
          refine WC_seq ?_
          refine WC_region ?_
          refine WL_val rfl rfl rfl (R_fieldAddr rfl fa45_0 rfl) ?_
          refine WL_val rfl rfl rfl (R_load rfl sc28 rfl (mmY) rfl) ?_
          refine WL_val rfl rfl rfl (R_eql rfl rfl rfl) ?_
          refine WL_nil ?_
          refine WQ_code ?_
          refine WC_dec rfl (fun c5 => ?_) (fun c5 => ?_)
          · omega
          · refine WC_skip ?_
            refine WQ_code ?_
            refine WC_seq ?_
            refine WC_region ?_
            refine WL_val rfl rfl rfl (R_move rfl rfl) ?_
            refine WL_nil ?_
            refine WQ_code ?_
            refine WC_dec rfl (fun c6 => ?_) (fun c6 => ?_)
            · have hq : lawQ m.kd m.L key (y.i : Int) (j9 : Int) = true := by have h5 := c6; unfold lawQ; rw [gB_at hxo, gB_at hy0, if_pos (by omega)]; exact decide_eq_true (by omega)
              refine WC_region ?_
              refine WL_val rfl rfl rfl (R_move rfl rfl) ?_
              refine WL_val rfl rfl rfl (R_assign rfl rfl) ?_
              refine WL_nil ?_
              refine WQ_code ?_
              refine WC_region ?_
              refine WL_val rfl rfl rfl (R_move rfl rfl) ?_
              refine WL_val rfl rfl rfl (R_add rfl rfl rfl (by omega)) ?_
              refine WL_val rfl rfl rfl (R_assign rfl rfl) ?_
              refine WL_nil ?_
              refine WQ_nextF (⟨y.i + 1, (y.i : Int), y.l ++ [(y.i : Int)]⟩) (⟨by dsimp only; omega, hln, .inr ⟨y.i, by dsimp only; rw [sel_next _ hne9, hs9, if_pos hq], by simp, rfl⟩⟩) (by dsimp only; omega) leZ (psZ) rfl (pqY)
            · have hq : lawQ m.kd m.L key (y.i : Int) (j9 : Int) = false := by have h5 := c6; unfold lawQ; rw [gB_at hxo, gB_at hy0, if_pos (by omega)]; exact decide_eq_false (by omega)
              refine WC_skip ?_
              refine WQ_code ?_
              refine WC_region ?_
              refine WL_val rfl rfl rfl (R_move rfl rfl) ?_
              refine WL_val rfl rfl rfl (R_add rfl rfl rfl (by omega)) ?_
              refine WL_val rfl rfl rfl (R_assign rfl rfl) ?_
              refine WL_nil ?_
              refine WQ_nextF (⟨y.i + 1, (j9 : Int), y.l ++ [(y.i : Int)]⟩) (⟨by dsimp only; omega, hln, .inr ⟨j9, by dsimp only; rw [sel_next _ hne9, hs9, hq, if_neg (by decide)], by dsimp only; rw [List.mem_append]; exact .inl (by rw [hyl]; exact candK_mem.2 hj9), rfl⟩⟩) (by dsimp only; omega) leZ (psZ) rfl (pqY)
        · refine WC_skip ?_
          refine WQ_code ?_
          refine WC_seq ?_
          refine WC_seq ?_
          refine WC_region ?_
          refine WL_val rfl rfl rfl (R_fieldAddr rfl fa45_0 rfl) ?_
          refine WL_val rfl rfl rfl (R_load rfl sc28 rfl (mmY) rfl) ?_
          refine WL_val rfl rfl rfl (R_eql rfl rfl rfl) ?_
          refine WL_nil ?_
          refine WQ_code ?_
          refine WC_dec rfl (fun c7 => ?_) (fun c7 => ?_)
          · refine WC_region ?_
            refine WL_val rfl rfl rfl (R_move rfl rfl) ?_
            refine WL_val rfl rfl rfl (R_move rfl rfl) ?_
            refine WL_do rfl rfl rfl (D_call (lscore_ok key (by omega) _) rfl rfl rfl rfl (pqY)) ?_
            rintro _ _ ⟨_, ⟨rfl, rfl⟩, rfl⟩
            refine WL_val rfl rfl rfl (R_move rfl rfl) ?_
            refine WL_val rfl rfl rfl (R_move rfl rfl) ?_
            refine WL_do rfl rfl rfl (D_call (lscore_ok key (by omega) _) rfl rfl rfl rfl (pqY)) ?_
            rintro _ _ ⟨_, ⟨rfl, rfl⟩, rfl⟩
            refine WL_val rfl rfl rfl (R_gtr rfl rfl rfl) ?_
            refine WL_val rfl rfl rfl (R_assign rfl rfl) ?_
            refine WL_nil ?_
            refine WQ_code ?_
            refine WC_seq ?_
            refine WC_region ?_
            refine WL_val rfl rfl rfl (R_move rfl rfl) ?_
            refine WL_nil ?_
            refine WQ_code ?_
            refine WC_dec rfl (fun c8 => ?_) (fun c8 => ?_)
            · have hq : lawQ m.kd m.L key (y.i : Int) (j9 : Int) = true := by have h5 := c8; unfold lawQ; rw [gB_at hxo, gB_at hy0, if_neg (by omega), if_pos (by omega)]; exact decide_eq_true (by omega)
              refine WC_region ?_
              refine WL_val rfl rfl rfl (R_move rfl rfl) ?_
              refine WL_val rfl rfl rfl (R_assign rfl rfl) ?_
              refine WL_nil ?_
              refine WQ_code ?_
              refine WC_region ?_
              refine WL_val rfl rfl rfl (R_move rfl rfl) ?_
              refine WL_val rfl rfl rfl (R_add rfl rfl rfl (by omega)) ?_
              refine WL_val rfl rfl rfl (R_assign rfl rfl) ?_
              refine WL_nil ?_
              refine WQ_nextF (⟨y.i + 1, (y.i : Int), y.l ++ [(y.i : Int)]⟩) (⟨by dsimp only; omega, hln, .inr ⟨y.i, by dsimp only; rw [sel_next _ hne9, hs9, if_pos hq], by simp, rfl⟩⟩) (by dsimp only; omega) leZ (psZ) rfl (pqY)
            · have hq : lawQ m.kd m.L key (y.i : Int) (j9 : Int) = false := by have h5 := c8; unfold lawQ; rw [gB_at hxo, gB_at hy0, if_neg (by omega), if_pos (by omega)]; exact decide_eq_false (by omega)
              refine WC_skip ?_
              refine WQ_code ?_
              refine WC_region ?_
              refine WL_val rfl rfl rfl (R_move rfl rfl) ?_
              refine WL_val rfl rfl rfl (R_add rfl rfl rfl (by omega)) ?_
              refine WL_val rfl rfl rfl (R_assign rfl rfl) ?_
              refine WL_nil ?_
              refine WQ_nextF (⟨y.i + 1, (j9 : Int), y.l ++ [(y.i : Int)]⟩) (⟨by dsimp only; omega, hln, .inr ⟨j9, by dsimp only; rw [sel_next _ hne9, hs9, hq, if_neg (by decide)], by dsimp only; rw [List.mem_append]; exact .inl (by rw [hyl]; exact candK_mem.2 hj9), rfl⟩⟩) (by dsimp only; omega) leZ (psZ) rfl (pqY)
          · refine WC_skip ?_
            refine WQ_code ?_
            refine WC_seq ?_
            refine WC_region ?_
            refine WL_val rfl rfl rfl (R_move rfl rfl) ?_
            refine WL_nil ?_
            refine WQ_code ?_
            refine WC_dec rfl (fun c9 => ?_) (fun c9 => ?_)
            · have hq : lawQ m.kd m.L key (y.i : Int) (j9 : Int) = true := by have h5 := c9; unfold lawQ; rw [gB_at hxo, gB_at hy0, if_neg (by omega), if_neg (by omega)]; exact decide_eq_true (by omega)
              refine WC_region ?_
              refine WL_val rfl rfl rfl (R_move rfl rfl) ?_
              refine WL_val rfl rfl rfl (R_assign rfl rfl) ?_
              refine WL_nil ?_
              refine WQ_code ?_
              refine WC_region ?_
              refine WL_val rfl rfl rfl (R_move rfl rfl) ?_
              refine WL_val rfl rfl rfl (R_add rfl rfl rfl (by omega)) ?_
              refine WL_val rfl rfl rfl (R_assign rfl rfl) ?_
              refine WL_nil ?_
              refine WQ_nextF (⟨y.i + 1, (y.i : Int), y.l ++ [(y.i : Int)]⟩) (⟨by dsimp only; omega, hln, .inr ⟨y.i, by dsimp only; rw [sel_next _ hne9, hs9, if_pos hq], by simp, rfl⟩⟩) (by dsimp only; omega) leZ (psZ) rfl (pqY)
            · have hq : lawQ m.kd m.L key (y.i : Int) (j9 : Int) = false := by have h5 := c9; unfold lawQ; rw [gB_at hxo, gB_at hy0, if_neg (by omega), if_neg (by omega)]; exact decide_eq_false (by omega)
              refine WC_skip ?_
              refine WQ_code ?_
              refine WC_region ?_
              refine WL_val rfl rfl rfl (R_move rfl rfl) ?_
              refine WL_val rfl rfl rfl (R_add rfl rfl rfl (by omega)) ?_
              refine WL_val rfl rfl rfl (R_assign rfl rfl) ?_
              refine WL_nil ?_
              refine WQ_nextF (⟨y.i + 1, (j9 : Int), y.l ++ [(y.i : Int)]⟩) (⟨by dsimp only; omega, hln, .inr ⟨j9, by dsimp only; rw [sel_next _ hne9, hs9, hq, if_neg (by decide)], by dsimp only; rw [List.mem_append]; exact .inl (by rw [hyl]; exact candK_mem.2 hj9), rfl⟩⟩) (by dsimp only; omega) leZ (psZ) rfl (pqY)
  · have hle : y.l = cand m.L now := by rw [hyl, show y.i = m.L.length by omega]
    rw [hle]
    rw [hle] at hyb
    refine WC_exit ?_
    refine WQ_code ?_
    refine WC_seq ?_
    refine WC_seq ?_
    refine WC_region ?_
    refine WL_val rfl rfl rfl (R_move rfl rfl) ?_
    refine WL_val rfl rfl rfl (R_geq rfl rfl rfl) ?_
    refine WL_nil ?_
    refine WQ_code ?_
    refine WC_dec rfl (fun c10 => ?_) (fun c10 => ?_)
    · obtain ⟨j8, hb8, hj8, hne, hs8⟩ : ∃ j8 : Nat, y.b = (j8 : Int) ∧ j8 < m.n ∧ cand m.L now ≠ [] ∧ sel (lawQ m.kd m.L key) (cand m.L now) = (j8 : Int) := by rcases hyb with h9 | ⟨j9, h9, h8, h7⟩; omega; exact ⟨j9, h7, by rw [← hhn]; exact (candK_mem.1 h8).1, (fun e => by rw [e] at h8; cases h8), h9⟩
      have hpk : pickI m.kd m.L m.nx key (cand m.L now) = (j8 : Int) := by rw [← law_pick hk hk4]; exact hs8
      have hsw := sumW_in m.L hw (cand m.L now) (fun a h9 => by obtain ⟨i, x, h1, h2, _⟩ := cand_mem h9; exact ⟨i, x, h1, h2⟩)
      have hcl : (cand m.L now).length ≤ m.L.length := candK_len m.L now m.L.length
      refine WC_set (s := 8) (v := .int .i64 (j8 : Int)) rfl (congrArg (Value.int .i64) hb8) ?_
      refine WC_drawE [⟨some w2, _⟩] [(0, false), (1, false), (2, false), (3, false), (4, false), (5, false), (6, false), (7, false), (8, true)] [(9, true), (10, true), (11, true), (12, true), (13, false)] followsMixed rfl rfl (by kernel_rfl) (pqY) ?_
      refine WZ_val rfl rfl rfl rfl (R_fieldAddr rfl fa45_1 rfl) ?_
      refine WZ_val rfl rfl rfl rfl (R_load rfl sc42 rfl (mmY) rfl) ?_
      refine WZ_val rfl rfl rfl rfl (R_move rfl rfl) ?_
      refine WZ_val rfl rfl rfl rfl (R_fieldAddr rfl fa45_1 rfl) ?_
      obtain ⟨z9, hz9⟩ := getE (T := bump m.L (cand m.L now)) (i := j8) (by rw [bump_len]; omega)
      obtain ⟨z8, hz8, ez8, bz1, bz2⟩ := bump_get _ hw hz9
      have hzs := hm.sh z8 (List.mem_of_getElem? hz8)
      have hzl : j8 < (bump m.L (cand m.L now)).length := by rw [bump_len]; omega
      refine WZ_val rfl rfl rfl rfl (R_load rfl sc42 rfl (mmY) rfl) ?_
      refine WZ_val rfl rfl rfl rfl (R_move rfl rfl) ?_
      refine WZ_val rfl rfl rfl rfl (R_indexAddrN rfl Try.underlying42 Try.sizeOf82 rfl rfl (by omega)) ?_
      refine WZ_val rfl rfl rfl rfl (R_fieldAddr rfl fa82_1 rfl) ?_
      refine WZ_early rfl rfl rfl rfl (R_load (v := .int .i64 z9.sh) rfl sc3 rfl (mmY) (fm_get0 encLB5 hz9 (j := 1) (by omega))) ?_
      refine WZ_rest ?_
      refine WM_val rfl rfl rfl rfl (R_move rfl rfl) ?_
      refine WM_val rfl rfl rfl rfl (R_sub rfl rfl rfl (by omega)) ?_
      refine WM_val rfl rfl rfl rfl (R_indexAddrN rfl Try.underlying42 Try.sizeOf82 rfl rfl (by omega)) ?_
      refine WM_val rfl rfl rfl rfl (R_fieldAddr rfl fa82_1 rfl) ?_
      refine WM_do0 rfl rfl rfl (D_store (vs := [_]) rfl Try.sizeOf3 rfl rfl rfl rfl rfl (plY) (by exact fm_room0 encLB5 hzl (j := 1) (by omega))) ?_
      rintro _ _ rfl
      refine ⟨⟨_, pqY⟩, ?_⟩
      have hput := fm_put0 encLB5 ({ z9 with sh := z9.sh - sumW m.L (cand m.L now) } : Bk) hz9 (j := 1) (vs := [.int .i64 (z9.sh - sumW m.L (cand m.L now))]) (by simp) rfl (tl := lt2)
      rw [hput]
      have e3 : chL m.kd m.L m.nx key (cand m.L now) = (bump m.L (cand m.L now)).set j8 { z9 with sh := z9.sh - sumW m.L (cand m.L now) } := by unfold chL; rw [if_neg (fun h9 => h9.elim hk hne), hpk]; unfold drop1; rw [gB_at hz9, Int.toNat_natCast]
      refine WM_nil ?_
      refine WQ_code ?_
      refine WC_seq ?_
      refine WC_region ?_
      refine WL_val rfl rfl rfl (R_loadA (vs := [_, _, _, _, _, _]) rfl ag45 rfl (mmY) rfl (atZ)) ?_
      refine WL_val rfl rfl rfl (R_move rfl rfl) ?_
      refine WL_do0 rfl rfl (D_store (vs := [_, _, _, _, _, _]) rfl Try.sizeOf45 rfl rfl rfl rfl rfl (plY) (by exact Nat.le_of_ble_eq_true rfl)) ?_
      rintro _ _ rfl
      refine WL_val rfl rfl rfl (R_assign rfl rfl) ?_
      refine WL_nil ?_
      refine WQ_code ?_
      refine WC_ret ?_
      refine WQ_ret rfl rfl (.cons (.cell (vs := [_, _, _, _, _, _]) rfl ag45 (mmY) rfl (atZ)) (.cons (.tmp rfl) .nil)) rfl (by
          refine ⟨w2, lc2, lt2, ?_, ?_, ?_⟩
          · rw [show chI m.kd m.L m.nx key (cand m.L now) = (j8 : Int) by unfold chI; rw [if_neg hne, hpk], show chN m.kd m.n m.nx (cand m.L now) = m.nx by unfold chN pickN; rw [if_neg hne, if_neg hk]]; rfl
          · rw [show chN m.kd m.n m.nx (cand m.L now) = m.nx by unfold chN pickN; rw [if_neg hne, if_neg hk], e3]
          · rw [e3]; exact own_LB ol2 (by rw [List.length_set, bump_len])) (pqY)
    · have hce : cand m.L now = [] := by rcases hyb with h9 | ⟨j9, _, _, h8⟩; exact h9.1; omega
      have hb1 : y.b = -1 := by rcases hyb with h9 | ⟨j9, _, _, h8⟩; exact h9.2; omega
      have e3 : chL m.kd m.L m.nx key (cand m.L now) = m.L := by unfold chL; rw [if_pos (.inr hce)]
      rw [show bump m.L (cand m.L now) = m.L by rw [hce]; rfl]
      refine WC_skip ?_
      refine WQ_code ?_
      refine WC_seq ?_
      refine WC_region ?_
      refine WL_val rfl rfl rfl (R_loadA (vs := [_, _, _, _, _, _]) rfl ag45 rfl (mmY) rfl (atZ)) ?_
      refine WL_val rfl rfl rfl (R_move rfl rfl) ?_
      refine WL_do0 rfl rfl (D_store (vs := [_, _, _, _, _, _]) rfl Try.sizeOf45 rfl rfl rfl rfl rfl (plY) (by exact Nat.le_of_ble_eq_true rfl)) ?_
      rintro _ _ rfl
      refine WL_val rfl rfl rfl (R_assign rfl rfl) ?_
      refine WL_nil ?_
      refine WQ_code ?_
      refine WC_ret ?_
      refine WQ_ret rfl rfl (.cons (.cell (vs := [_, _, _, _, _, _]) rfl ag45 (mmY) rfl (atZ)) (.cons (.tmp rfl) .nil)) rfl (by
          refine ⟨w2, lc2, lt2, ?_, ?_, ?_⟩
          · rw [show chI m.kd m.L m.nx key (cand m.L now) = -1 by unfold chI; rw [if_pos hce], show chN m.kd m.n m.nx (cand m.L now) = m.nx by unfold chN; rw [if_pos hce], hb1]; rfl
          · rw [show chN m.kd m.n m.nx (cand m.L now) = m.nx by unfold chN; rw [if_pos hce], e3]
          · rw [e3]; exact ol2) (pqY)

end Go.Proofs.Ytiokpmgbabpikaa
