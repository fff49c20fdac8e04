/-
  Chapter 48 (balance), part Bal3: contracts of functions that the laws call, each for the heap it names.
-/
import Derived.Test.YtiokpmgbabpikaaRows
import Derived.Test.YtiokpmgbabpikaaZSLOpt
import Derived.Test.YtiokpmgbabpikaaTab
import Derived.Test.YtiokpmgbabpikaaBalM
import Derived.Test.YtiokpmgbabpikaaBal1
set_option linter.unusedVariables false
set_option maxRecDepth 20000
set_option maxHeartbeats 4000000
namespace Go.Proofs.Ytiokpmgbabpikaa


structure CanW where
  k : Nat
  l : List Int
  o : Option Nat
  c : Nat
  tl : List Value
theorem bcand_ok (m : Bm) (N : Nat) (C : List Cl) (hm : BalIs N m C) (now : Nat) (h1 : m.last ≤ now) (h2 : now ≤ 18446744073709551614) : Spec Try.prog 19 [ptrB m.p, .int .u64 (now : Int)] (balH m)
    (fun r H' => ∃ o c tl, r = slV o (cand m.L now).length c ∧ Own o (cand m.L now).length c 1 (ivs (cand m.L now)) tl ∧ H' = ⟨o, cl (ivs (cand m.L now) ++ tl) 3⟩ :: balH m) := by
  have hmay : mayB m true now = 0 := by unfold mayB; rw [if_neg (by decide), if_neg (by omega)]
  have hnn := hm.n
  have hcd : candK m.L now m.n = cand m.L now := by unfold cand; rw [hm.hn]
  refine Spec.of (E := [(0, ptrB m.p), (1, .int .u64 (now : Int))]) Try.func19 rfl (by kernel_rfl) Try.ntmps19 rfl rfl (fun w => ?_)
  refine WC_seq ?_
  refine WC_region ?_
  refine WL_val rfl rfl rfl (R_assign rfl rfl) ?_
  refine WL_nil ?_
  refine WQ_code ?_
  refine WC_seq ?_
  refine WC_seq ?_
  refine WC_region ?_
  refine WL_val rfl rfl rfl (R_move rfl rfl) ?_
  refine WL_val rfl rfl rfl (R_move rfl rfl) ?_
  refine WL_do rfl rfl rfl (D_call (bmay_ok m true now) rfl rfl rfl rfl (pqY)) ?_
  rintro _ _ ⟨_, ⟨rfl, rfl⟩, rfl⟩
  refine WL_val rfl rfl rfl (R_neq rfl rfl rfl) ?_
  refine WL_nil ?_
  refine WQ_code ?_
  refine WC_dF rfl (by rw [hmay]; decide) ?_
  refine WC_skip ?_
  refine WQ_code ?_
  refine WC_seq ?_
  refine WC_region ?_
  refine WL_val rfl rfl rfl (R_assign rfl rfl) ?_
  refine WL_nil ?_
  refine WQ_code ?_
  refine WC_seq ?_
  refine WC_seq ?_
  refine WC_region ?_
  refine WL_val rfl rfl rfl (R_move rfl rfl) ?_
  refine WL_val rfl rfl rfl (R_nilCheck rfl rfl) ?_
  refine WL_val rfl rfl rfl (R_fieldAddr rfl fa57_1 rfl) ?_
  refine WL_val rfl rfl rfl (R_load rfl sc54 rfl (mmY) rfl) ?_
  refine WL_val rfl rfl rfl (R_len rfl Try.underlying54 rfl) ?_
  refine WL_val rfl rfl rfl (R_move rfl rfl) ?_
  refine WL_nil ?_
  refine WQ_code ?_
  refine WC_block ?_
  refine WC_none 3 ?_
  refine WC_loopF (G := CanW) [5, 6, 7, 8, 9, 19, 20, 21, 22, 23, 24, 25, 26, 27, 28, 29, 30, 31, 32, 33, 34, 35, 36, 37, 38, 39, 40] (fun y => y.k ≤ m.n ∧ y.l = candK m.L now y.k ∧ Own y.o y.l.length y.c 1 (ivs y.l) y.tl) (fun y => [(19, .int .i64 (y.k : Int)), (5, slV y.o y.l.length y.c)]) (fun y => [⟨y.o, cl (ivs y.l ++ y.tl) 3⟩]) (fun y => m.n - y.k) (⟨0, [], none, 0, []⟩) (⟨Nat.zero_le _, rfl, Own.empty 1⟩) leZ (pqY) ?_
  rintro y ⟨hyk, hyl, hyo⟩
  refine WC_seq ?_
  refine WC_region ?_
  refine WL_val rfl rfl rfl (R_lss rfl rfl rfl) ?_
  refine WL_nil ?_
  refine WQ_code ?_
  refine WC_seq ?_
  refine WC_dec rfl (fun c1 => ?_) (fun c1 => ?_)
  · refine WC_skip ?_
    refine WQ_code ?_
    refine WC_seq ?_
    refine WC_block ?_
    refine WC_seq ?_
    refine WC_region ?_
    have hk9 : y.k < m.n := by omega
    obtain ⟨x9, hx9⟩ := getE (T := m.L) (i := y.k) (by rw [hm.hn]; exact hk9)
    have hfx := hm.fit x9 (List.mem_of_getElem? hx9)
    have hcn := candK_next (L := m.L) (now := now) (k := y.k)
    have hcl9 := candK_len m.L now y.k
    rw [← hyl] at hcl9 hcn
    refine WL_val rfl rfl rfl (R_move rfl rfl) ?_
    refine WL_val rfl rfl rfl (R_indexAddrN rfl Try.underlying54 Try.sizeOf73 rfl rfl (by omega)) ?_
    refine WL_val rfl rfl rfl (R_loadA (vs := encB x9) rfl ag73 rfl (mmY) rfl (fm_at0 encB5 hx9 (j := 0) (vs := encB x9) (fun j v h => by rw [Nat.zero_add]; exact h) (Nat.le_refl _))) ?_
    refine WL_do rfl rfl rfl (D_alloc rfl zv73) ?_
    rintro _ _ ⟨b1, rfl, rfl⟩
    refine WL_val rfl rfl rfl (R_assign rfl rfl) ?_
    refine WL_do0 rfl rfl (D_store (vs := [_, _, _, _, _]) rfl Try.sizeOf73 rfl rfl rfl rfl rfl (plY) (by exact Nat.le_of_ble_eq_true rfl)) ?_
    rintro _ _ rfl
    refine WL_nil ?_
    refine WQ_code ?_
    refine WC_seq ?_
    refine WC_region ?_
    refine WL_val rfl rfl rfl (R_fieldAddr rfl fa73_4 rfl) ?_
    refine WL_val rfl rfl rfl (R_load rfl sc69 rfl (mmY) rfl) ?_
    refine WL_val rfl rfl rfl (R_move rfl rfl) ?_
    refine WL_do rfl rfl rfl (D_call (ready_at hx9 hfx.1 now (by omega) h2) rfl rfl rfl rfl (pqY)) ?_
    rintro _ _ ⟨_, ⟨rfl, rfl⟩, rfl⟩
    refine WL_val rfl rfl rfl (R_move rfl rfl) ?_
    refine WL_val rfl rfl rfl (R_extract rfl rfl rfl) ?_
    refine WL_val rfl rfl rfl (R_extract rfl rfl rfl) ?_
    refine WL_val rfl rfl rfl (R_assign rfl rfl) ?_
    refine WL_val rfl rfl rfl (R_assign rfl rfl) ?_
    refine WL_nil ?_
    refine WQ_code ?_
    refine WC_seq ?_
    refine WC_region ?_
    refine WL_val rfl rfl rfl (R_move rfl rfl) ?_
    refine WL_val rfl rfl rfl (R_move rfl rfl) ?_
    refine WL_splitD (s := 32) rfl (fun c2 => ?_) (fun c2 => ?_)
    · have hrd9 : rdB x9.b now := c2
      refine WL_val rfl rfl rfl (R_fieldAddr rfl fa73_3 rfl) ?_
      refine WL_val rfl rfl rfl (R_load rfl sc4 rfl (mmY) rfl) ?_
      refine WL_val rfl rfl rfl (R_pickT rfl rfl rfl) ?_
      refine WL_nil ?_
      refine WQ_code ?_
      refine WC_if rfl (fun c3 => ?_) (fun c3 => ?_)
      · have hok : okAt m.L now y.k = true := by unfold okAt; rw [hx9]; simp [hrd9, c3]
        rw [if_pos hok] at hcn
        refine WC_region ?_
        refine WL_val rfl rfl rfl (R_move rfl rfl) ?_
        refine WL_val rfl rfl rfl (R_move rfl rfl) ?_
        refine WL_do rfl rfl rfl (D_buildSlice rfl si26 rfl rfl rfl) ?_
        rintro _ _ ⟨b2, rfl, rfl⟩
        refine WL_do rfl rfl rfl (D_append rfl si26 rfl (hyo) (plY) rfl (mmY) ((atZ : At _ 0 [_])) (rfl) (rfl) (by omega) (by omega)) ?_
        rintro _ _ ⟨ob3, cap3, tl3, rfl, own3, rfl⟩
        rw [show ivs y.l ++ [Value.int .i64 (y.k : Int)] = ivs (y.l ++ [(y.k : Int)]) from by simp, show y.l.length + 1 = (y.l ++ [(y.k : Int)]).length from by simp] at own3 ⊢
        refine WL_val rfl rfl rfl (R_assign rfl rfl) ?_
        refine WL_nil ?_
        refine WQ_code ?_
        refine WC_region ?_
        refine WL_val rfl rfl rfl (R_add rfl rfl rfl (by omega)) ?_
        refine WL_val rfl rfl rfl (R_move rfl rfl) ?_
        refine WL_nil ?_
        refine WQ_nextF (⟨y.k + 1, y.l ++ [(y.k : Int)], ob3, cap3, tl3⟩) (⟨by dsimp only; omega, hcn.symm, own3⟩) (by dsimp only; omega) leZ (psZ) rfl (pqY)
      · have hok : okAt m.L now y.k = false := by unfold okAt; rw [hx9]; simp [c3]
        rw [hok, if_neg (by decide), List.append_nil] at hcn
        refine WC_skip ?_
        refine WQ_code ?_
        refine WC_region ?_
        refine WL_val rfl rfl rfl (R_add rfl rfl rfl (by omega)) ?_
        refine WL_val rfl rfl rfl (R_move rfl rfl) ?_
        refine WL_nil ?_
        refine WQ_nextF (⟨y.k + 1, y.l, y.o, y.c, y.tl⟩) (⟨by dsimp only; omega, hcn.symm, hyo⟩) (by dsimp only; omega) leZ (psZ) rfl (pqY)
    · have hok : okAt m.L now y.k = false := by unfold okAt; rw [hx9]; simp [c2]
      rw [hok, if_neg (by decide), List.append_nil] at hcn
      refine WL_skip rfl rfl rfl ?_
      refine WL_skip rfl rfl rfl ?_
      refine WL_val rfl rfl rfl (R_pickF rfl rfl rfl) ?_
      refine WL_nil ?_
      refine WQ_code ?_
      refine WC_F rfl ?_
      refine WC_skip ?_
      refine WQ_code ?_
      refine WC_region ?_
      refine WL_val rfl rfl rfl (R_add rfl rfl rfl (by omega)) ?_
      refine WL_val rfl rfl rfl (R_move rfl rfl) ?_
      refine WL_nil ?_
      refine WQ_nextF (⟨y.k + 1, y.l, y.o, y.c, y.tl⟩) (⟨by dsimp only; omega, hcn.symm, hyo⟩) (by dsimp only; omega) leZ (psZ) rfl (pqY)
  · have hkl : y.l = cand m.L now := by rw [hyl, show y.k = m.n by omega, hcd]
    refine WC_exit ?_
    refine WQ_code ?_
    refine WC_seq ?_
    refine WC_region ?_
    refine WL_val rfl rfl rfl (R_move rfl rfl) ?_
    refine WL_val rfl rfl rfl (R_assign rfl rfl) ?_
    refine WL_nil ?_
    refine WQ_code ?_
    refine WC_ret ?_
    refine WQ_ret rfl rfl (.cons (.tmp rfl) .nil) rfl (by
        exact ⟨y.o, y.c, y.tl, by rw [← hkl]; rfl, by rw [← hkl]; exact hyo, by rw [← hkl]⟩) (pqY)
theorem bcand_late (m : Bm) (now : Nat) (h : mayB m true now ≠ 0) : Spec Try.prog 19 [ptrB m.p, .int .u64 (now : Int)] [bE1 m] (fun r H' => r = .slice none 0 0 ∧ H' = [bE1 m]) := by
  refine Spec.of (E := [(0, ptrB m.p), (1, .int .u64 (now : Int))]) Try.func19 rfl (by kernel_rfl) Try.ntmps19 rfl rfl (fun w => ?_)
  refine WC_seq ?_
  refine WC_region ?_
  refine WL_val rfl rfl rfl (R_assign rfl rfl) ?_
  refine WL_nil ?_
  refine WQ_code ?_
  refine WC_seq ?_
  refine WC_seq ?_
  refine WC_region ?_
  refine WL_val rfl rfl rfl (R_move rfl rfl) ?_
  refine WL_val rfl rfl rfl (R_move rfl rfl) ?_
  refine WL_do rfl rfl rfl (D_call (bmay_ok m true now) rfl rfl rfl rfl (pqY)) ?_
  rintro _ _ ⟨_, ⟨rfl, rfl⟩, rfl⟩
  refine WL_val rfl rfl rfl (R_neq rfl rfl rfl) ?_
  refine WL_nil ?_
  refine WQ_code ?_
  refine WC_dT rfl (by exact h) ?_
  refine WC_seq ?_
  refine WC_region ?_
  refine WL_val rfl rfl rfl (R_assign rfl rfl) ?_
  refine WL_nil ?_
  refine WQ_code ?_
  refine WC_ret ?_
  refine WQ_ret rfl rfl (.cons (.tmp rfl) .nil) rfl (by
      exact ⟨rfl, rfl⟩) (pqY)
theorem bcand_nil (now : Nat) : Spec Try.prog 19 [.pointer none, .int .u64 (now : Int)] [] (fun r H' => r = .slice none 0 0 ∧ H' = []) := by
  refine Spec.of (E := [(0, .pointer none), (1, .int .u64 (now : Int))]) Try.func19 rfl (by kernel_rfl) Try.ntmps19 rfl rfl (fun w => ?_)
  refine WC_seq ?_
  refine WC_region ?_
  refine WL_val rfl rfl rfl (R_assign rfl rfl) ?_
  refine WL_nil ?_
  refine WQ_code ?_
  refine WC_seq ?_
  refine WC_seq ?_
  refine WC_region ?_
  refine WL_val rfl rfl rfl (R_move rfl rfl) ?_
  refine WL_val rfl rfl rfl (R_move rfl rfl) ?_
  refine WL_do rfl rfl rfl (D_call (bmay_nil true now) rfl rfl rfl rfl (pqY)) ?_
  rintro _ _ ⟨_, ⟨rfl, rfl⟩, rfl⟩
  refine WL_val rfl rfl rfl (R_neq rfl rfl rfl) ?_
  refine WL_nil ?_
  refine WQ_code ?_
  refine WC_dT rfl (by decide) ?_
  refine WC_seq ?_
  refine WC_region ?_
  refine WL_val rfl rfl rfl (R_assign rfl rfl) ?_
  refine WL_nil ?_
  refine WQ_code ?_
  refine WC_ret ?_
  refine WQ_ret rfl rfl (.cons (.tmp rfl) .nil) rfl (by
      exact ⟨rfl, rfl⟩) (pqY)
theorem bcand_zero (p : Nat) (now : Nat) : Spec Try.prog 19 [ptrB p, .int .u64 (now : Int)] [⟨some p, cl balZ 57⟩] (fun r H' => r = .slice none 0 0 ∧ H' = [⟨some p, cl balZ 57⟩]) := by
  refine Spec.of (E := [(0, ptrB p), (1, .int .u64 (now : Int))]) Try.func19 rfl (by kernel_rfl) Try.ntmps19 rfl rfl (fun w => ?_)
  refine WC_seq ?_
  refine WC_region ?_
  refine WL_val rfl rfl rfl (R_assign rfl rfl) ?_
  refine WL_nil ?_
  refine WQ_code ?_
  refine WC_seq ?_
  refine WC_seq ?_
  refine WC_region ?_
  refine WL_val rfl rfl rfl (R_move rfl rfl) ?_
  refine WL_val rfl rfl rfl (R_move rfl rfl) ?_
  refine WL_do rfl rfl rfl (D_call (bmay_zero p true now) rfl rfl rfl rfl (pqY)) ?_
  rintro _ _ ⟨_, ⟨rfl, rfl⟩, rfl⟩
  refine WL_val rfl rfl rfl (R_neq rfl rfl rfl) ?_
  refine WL_nil ?_
  refine WQ_code ?_
  refine WC_dT rfl (by decide) ?_
  refine WC_seq ?_
  refine WC_region ?_
  refine WL_val rfl rfl rfl (R_assign rfl rfl) ?_
  refine WL_nil ?_
  refine WQ_code ?_
  refine WC_ret ?_
  refine WQ_ret rfl rfl (.cons (.tmp rfl) .nil) rfl (by
      exact ⟨rfl, rfl⟩) (pqY)
theorem bpick_bad (m : Bm) (now : Nat) (key : ByteArray) (h : mayB m (decide ((key.size : Int) ≤ 64)) now ≠ 0) : Spec Try.prog 12 [ptrB m.p, .int .u64 (now : Int), .string key] [bE1 m]
    (fun r H' => r = .tuple #[.agg #[.int .i64 0, .int .i64 0], .int .i64 (mayB m (decide ((key.size : Int) ≤ 64)) now)] ∧ H' = [bE1 m]) := by
  refine Spec.of (E := [(0, ptrB m.p), (1, .int .u64 (now : Int)), (2, .string key)]) Try.func12 rfl (by kernel_rfl) Try.ntmps12 rfl rfl (fun w => ?_)
  refine WC_seq ?_
  refine WC_region ?_
  refine WL_do rfl rfl rfl (D_alloc rfl zv36) ?_
  rintro _ _ ⟨b1, rfl, rfl⟩
  refine WL_val rfl rfl rfl (R_assign rfl rfl) ?_
  refine WL_nil ?_
  refine WQ_code ?_
  refine WC_seq ?_
  refine WC_seq ?_
  refine WC_region ?_
  refine WL_val rfl rfl rfl (R_move rfl rfl) ?_
  refine WL_val rfl rfl rfl (R_move rfl rfl) ?_
  refine WL_val rfl rfl rfl (R_lenStr rfl Try.underlying9 rfl) ?_
  refine WL_val rfl rfl rfl (R_leq rfl rfl rfl) ?_
  refine WL_val rfl rfl rfl (R_move rfl rfl) ?_
  refine WL_do rfl rfl rfl (D_call (bmay_ok m (decide ((key.size : Int) ≤ 64)) now) rfl rfl rfl rfl (pqY)) ?_
  rintro _ _ ⟨_, ⟨rfl, rfl⟩, rfl⟩
  refine WL_val rfl rfl rfl (R_assign rfl rfl) ?_
  refine WL_nil ?_
  refine WQ_code ?_
  refine WC_seq ?_
  refine WC_region ?_
  refine WL_val rfl rfl rfl (R_move rfl rfl) ?_
  refine WL_val rfl rfl rfl (R_neq rfl rfl rfl) ?_
  refine WL_nil ?_
  refine WQ_code ?_
  refine WC_dT rfl (by exact h) ?_
  refine WC_seq ?_
  refine WC_region ?_
  refine WL_val rfl rfl rfl (R_build rfl zv36 pl36 rfl rfl) ?_
  refine WL_val rfl rfl rfl (R_move rfl rfl) ?_
  refine WL_do0 rfl rfl (D_store (vs := [_, _]) rfl Try.sizeOf36 rfl rfl rfl rfl rfl (plY) (by exact Nat.le_of_ble_eq_true rfl)) ?_
  rintro _ _ rfl
  refine WL_val rfl rfl rfl (R_assign rfl rfl) ?_
  refine WL_nil ?_
  refine WQ_code ?_
  refine WC_ret ?_
  refine WQ_ret rfl rfl (.cons (.cell (vs := [_, _]) rfl ag36 (mmY) rfl (atZ)) (.cons (.tmp rfl) .nil)) rfl (by
      exact ⟨rfl, rfl⟩) (pqY)
theorem bpick_nil (now : Nat) (key : ByteArray) : Spec Try.prog 12 [.pointer none, .int .u64 (now : Int), .string key] [] (fun r H' => r = .tuple #[.agg #[.int .i64 0, .int .i64 0], .int .i64 1] ∧ H' = []) := by
  refine Spec.of (E := [(0, .pointer none), (1, .int .u64 (now : Int)), (2, .string key)]) Try.func12 rfl (by kernel_rfl) Try.ntmps12 rfl rfl (fun w => ?_)
  refine WC_seq ?_
  refine WC_region ?_
  refine WL_do rfl rfl rfl (D_alloc rfl zv36) ?_
  rintro _ _ ⟨b1, rfl, rfl⟩
  refine WL_val rfl rfl rfl (R_assign rfl rfl) ?_
  refine WL_nil ?_
  refine WQ_code ?_
  refine WC_seq ?_
  refine WC_seq ?_
  refine WC_region ?_
  refine WL_val rfl rfl rfl (R_move rfl rfl) ?_
  refine WL_val rfl rfl rfl (R_move rfl rfl) ?_
  refine WL_val rfl rfl rfl (R_lenStr rfl Try.underlying9 rfl) ?_
  refine WL_val rfl rfl rfl (R_leq rfl rfl rfl) ?_
  refine WL_val rfl rfl rfl (R_move rfl rfl) ?_
  refine WL_do rfl rfl rfl (D_call (bmay_nil (decide ((key.size : Int) ≤ 64)) now) rfl rfl rfl rfl (pqY)) ?_
  rintro _ _ ⟨_, ⟨rfl, rfl⟩, rfl⟩
  refine WL_val rfl rfl rfl (R_assign rfl rfl) ?_
  refine WL_nil ?_
  refine WQ_code ?_
  refine WC_seq ?_
  refine WC_region ?_
  refine WL_val rfl rfl rfl (R_move rfl rfl) ?_
  refine WL_val rfl rfl rfl (R_neq rfl rfl rfl) ?_
  refine WL_nil ?_
  refine WQ_code ?_
  refine WC_dT rfl (by decide) ?_
  refine WC_seq ?_
  refine WC_region ?_
  refine WL_val rfl rfl rfl (R_build rfl zv36 pl36 rfl rfl) ?_
  refine WL_val rfl rfl rfl (R_move rfl rfl) ?_
  refine WL_do0 rfl rfl (D_store (vs := [_, _]) rfl Try.sizeOf36 rfl rfl rfl rfl rfl (plY) (by exact Nat.le_of_ble_eq_true rfl)) ?_
  rintro _ _ rfl
  refine WL_val rfl rfl rfl (R_assign rfl rfl) ?_
  refine WL_nil ?_
  refine WQ_code ?_
  refine WC_ret ?_
  refine WQ_ret rfl rfl (.cons (.cell (vs := [_, _]) rfl ag36 (mmY) rfl (atZ)) (.cons (.tmp rfl) .nil)) rfl (by
      exact ⟨rfl, rfl⟩) (pqY)
theorem bpick_zero (p now : Nat) (key : ByteArray) : Spec Try.prog 12 [ptrB p, .int .u64 (now : Int), .string key] [⟨some p, cl balZ 57⟩] (fun r H' => r = .tuple #[.agg #[.int .i64 0, .int .i64 0], .int .i64 1] ∧ H' = [⟨some p, cl balZ 57⟩]) := by
  refine Spec.of (E := [(0, ptrB p), (1, .int .u64 (now : Int)), (2, .string key)]) Try.func12 rfl (by kernel_rfl) Try.ntmps12 rfl rfl (fun w => ?_)
  refine WC_seq ?_
  refine WC_region ?_
  refine WL_do rfl rfl rfl (D_alloc rfl zv36) ?_
  rintro _ _ ⟨b1, rfl, rfl⟩
  refine WL_val rfl rfl rfl (R_assign rfl rfl) ?_
  refine WL_nil ?_
  refine WQ_code ?_
  refine WC_seq ?_
  refine WC_seq ?_
  refine WC_region ?_
  refine WL_val rfl rfl rfl (R_move rfl rfl) ?_
  refine WL_val rfl rfl rfl (R_move rfl rfl) ?_
  refine WL_val rfl rfl rfl (R_lenStr rfl Try.underlying9 rfl) ?_
  refine WL_val rfl rfl rfl (R_leq rfl rfl rfl) ?_
  refine WL_val rfl rfl rfl (R_move rfl rfl) ?_
  refine WL_do rfl rfl rfl (D_call (bmay_zero p (decide ((key.size : Int) ≤ 64)) now) rfl rfl rfl rfl (pqY)) ?_
  rintro _ _ ⟨_, ⟨rfl, rfl⟩, rfl⟩
  refine WL_val rfl rfl rfl (R_assign rfl rfl) ?_
  refine WL_nil ?_
  refine WQ_code ?_
  refine WC_seq ?_
  refine WC_region ?_
  refine WL_val rfl rfl rfl (R_move rfl rfl) ?_
  refine WL_val rfl rfl rfl (R_neq rfl rfl rfl) ?_
  refine WL_nil ?_
  refine WQ_code ?_
  refine WC_dT rfl (by decide) ?_
  refine WC_seq ?_
  refine WC_region ?_
  refine WL_val rfl rfl rfl (R_build rfl zv36 pl36 rfl rfl) ?_
  refine WL_val rfl rfl rfl (R_move rfl rfl) ?_
  refine WL_do0 rfl rfl (D_store (vs := [_, _]) rfl Try.sizeOf36 rfl rfl rfl rfl rfl (plY) (by exact Nat.le_of_ble_eq_true rfl)) ?_
  rintro _ _ rfl
  refine WL_val rfl rfl rfl (R_assign rfl rfl) ?_
  refine WL_nil ?_
  refine WQ_code ?_
  refine WC_ret ?_
  refine WQ_ret rfl rfl (.cons (.cell (vs := [_, _]) rfl ag36 (mmY) rfl (atZ)) (.cons (.tmp rfl) .nil)) rfl (by
      exact ⟨rfl, rfl⟩) (pqY)
theorem bpick_none (m : Bm) (N : Nat) (C : List Cl) (hm : BalIs N m C) (hN : N ≤ 9000) (now : Nat) (key : ByteArray) (hk : key.size ≤ 64) (h1 : m.last ≤ now) (h2 : now ≤ 18446744073709551614) (h : cand m.L now = []) : Spec Try.prog 12 [ptrB m.p, .int .u64 (now : Int), .string key] (balH m)
    (fun r H' => r = .tuple #[.agg #[.int .i64 0, .int .i64 0], .int .i64 9] ∧ H' = balH m) := by
  have hmay : mayB m (decide ((key.size : Int) ≤ 64)) now = 0 := by unfold mayB; rw [if_neg (by rw [decide_eq_false_iff_not]; omega), if_neg (by omega)]
  have hcl := hm.cl
  refine Spec.of (E := [(0, ptrB m.p), (1, .int .u64 (now : Int)), (2, .string key)]) Try.func12 rfl (by kernel_rfl) Try.ntmps12 rfl rfl (fun w => ?_)
  refine WC_seq ?_
  refine WC_region ?_
  refine WL_do rfl rfl rfl (D_alloc rfl zv36) ?_
  rintro _ _ ⟨b1, rfl, rfl⟩
  refine WL_val rfl rfl rfl (R_assign rfl rfl) ?_
  refine WL_nil ?_
  refine WQ_code ?_
  refine WC_seq ?_
  refine WC_seq ?_
  refine WC_region ?_
  refine WL_val rfl rfl rfl (R_move rfl rfl) ?_
  refine WL_val rfl rfl rfl (R_move rfl rfl) ?_
  refine WL_val rfl rfl rfl (R_lenStr rfl Try.underlying9 rfl) ?_
  refine WL_val rfl rfl rfl (R_leq rfl rfl rfl) ?_
  refine WL_val rfl rfl rfl (R_move rfl rfl) ?_
  refine WL_do rfl rfl rfl (D_call (bmay_ok m (decide ((key.size : Int) ≤ 64)) now) rfl rfl rfl rfl (pqY)) ?_
  rintro _ _ ⟨_, ⟨rfl, rfl⟩, rfl⟩
  refine WL_val rfl rfl rfl (R_assign rfl rfl) ?_
  refine WL_nil ?_
  refine WQ_code ?_
  refine WC_seq ?_
  refine WC_region ?_
  refine WL_val rfl rfl rfl (R_move rfl rfl) ?_
  refine WL_val rfl rfl rfl (R_neq rfl rfl rfl) ?_
  refine WL_nil ?_
  refine WQ_code ?_
  refine WC_dF rfl (by rw [hmay]; decide) ?_
  refine WC_skip ?_
  refine WQ_code ?_
  refine WC_seq ?_
  refine WC_region ?_
  refine WL_val rfl rfl rfl (R_move rfl rfl) ?_
  refine WL_val rfl rfl rfl (R_move rfl rfl) ?_
  refine WL_do rfl rfl rfl (D_call (bcand_ok m N C hm now h1 h2) rfl rfl rfl rfl (pqY)) ?_
  rintro _ _ ⟨_, ⟨o9, c9, tl9, rfl, own9, rfl⟩, rfl⟩
  refine WL_val rfl rfl rfl (R_assign rfl rfl) ?_
  refine WL_nil ?_
  refine WQ_code ?_
  refine WC_seq ?_
  refine WC_block ?_
  refine WC_seq ?_
  refine WC_region ?_
  refine WL_val rfl rfl rfl (R_move rfl rfl) ?_
  refine WL_val rfl rfl rfl (R_nilCheck rfl rfl) ?_
  refine WL_val rfl rfl rfl (R_fieldAddr rfl fa57_4 rfl) ?_
  refine WL_val rfl rfl rfl (R_load rfl sc55 rfl (mmY) rfl) ?_
  refine WL_val rfl rfl rfl (R_lenMap rfl Try.underlying55 rfl mmY hm.mp) ?_
  refine WL_val rfl rfl rfl (R_geq rfl rfl rfl) ?_
  refine WL_val rfl rfl rfl (R_assign rfl rfl) ?_
  refine WL_nil ?_
  refine WQ_code ?_
  refine WC_dF rfl (by omega) ?_
  refine WC_seq ?_
  refine WC_region ?_
  refine WL_val rfl rfl rfl (R_move rfl rfl) ?_
  refine WL_val rfl rfl rfl (R_len rfl Try.underlying26 rfl) ?_
  refine WL_val rfl rfl rfl (R_eql rfl rfl rfl) ?_
  refine WL_val rfl rfl rfl (R_assign rfl rfl) ?_
  refine WL_nil ?_
  refine WQ_code ?_
  refine WC_dT rfl (by rw [h]; rfl) ?_
  refine WC_seq ?_
  refine WC_region ?_
  refine WL_val rfl rfl rfl (R_build rfl zv36 pl36 rfl rfl) ?_
  refine WL_do0 rfl rfl (D_store (vs := [_, _]) rfl Try.sizeOf36 rfl rfl rfl rfl rfl (plY) (by exact Nat.le_of_ble_eq_true rfl)) ?_
  rintro _ _ rfl
  refine WL_val rfl rfl rfl (R_assign rfl rfl) ?_
  refine WL_nil ?_
  refine WQ_code ?_
  refine WC_ret ?_
  refine WQ_ret rfl rfl (.cons (.cell (vs := [_, _]) rfl ag36 (mmY) rfl (atZ)) (.cons (.tmp rfl) .nil)) rfl (by
      exact ⟨rfl, rfl⟩) (pqY)
/-- What Pick makes of the backends. -/
def pickS (k : Nat) (L : List Bk) (now : Nat) (l : List Int) (i : Nat) : List Bk :=
  (pickL k L l).set i { gB (pickL k L l) (i : Int) with act := (gB L (i : Int)).act + 1, b := alB (gB L (i : Int)).b now }
theorem bpick_raw (m : Bm) (N : Nat) (C : List Cl) (hm : BalIs N m C) (hN : N ≤ 9000) (now : Nat) (key : ByteArray) (hk : key.size ≤ 64) (h1 : m.last ≤ now) (h2 : now ≤ 18446744073709551614) (i : Nat) (x : Bk) (hx : m.L[i]? = some x) (hr : rdB x.b now)
    (hne : cand m.L now ≠ []) (hi : pickI m.k m.L m.nx key (cand m.L now) = (i : Int)) : Spec Try.prog 12 [ptrB m.p, .int .u64 (now : Int), .string key] (balH m)
    (fun r H' => ∃ es' mc', r = .tuple #[.agg #[.int .i64 (i : Int), .int .i64 ((m.gv + 1 : Nat) : Int)], .int .i64 0] ∧ Mp (.int .i64) ekI evC es' ((((m.gv + 1 : Nat) : Int), ((i : Int), (alB x.b now).gen)) :: C) ∧
      H' = balH { m with L := pickS m.k m.L now (cand m.L now) i, nx := pickN m.k m.n m.nx (cand m.L now), gv := m.gv + 1, last := now, es := es', mc := mc' }) := by
  have hmay : mayB m (decide ((key.size : Int) ≤ 64)) now = 0 := by unfold mayB; rw [if_neg (by rw [decide_eq_false_iff_not]; omega), if_neg (by omega)]
  have hcl := hm.cl
  have hin : ∀ a ∈ cand m.L now, ∃ (i : Nat) (x : Bk), a = (i : Int) ∧ m.L[i]? = some x := fun a ha => by
    obtain ⟨i, x, h1, h2, _⟩ := cand_mem ha
    exact ⟨i, x, h1, h2⟩
  have hl1 : 1 ≤ (cand m.L now).length := by
    cases h : cand m.L now with
    | nil => exact absurd h hne
    | cons a r => simp
  have hlb : (cand m.L now).length ≤ 64 := Nat.le_trans (candK_len _ _ _) (by rw [hm.hn]; exact hm.n.2)
  have hil := (List.getElem?_eq_some_iff.1 hx).1
  have hin9 : i < m.n := by rw [← hm.hn]; exact hil
  obtain ⟨y, hy⟩ := getE (T := pickL m.k m.L (cand m.L now)) (i := i) (by rw [pickL_len]; exact hil)
  obtain ⟨x', hx', e1, _, _⟩ := pickL_get hm.w hin hy
  obtain rfl : x' = x := by rw [hx] at hx'; exact (Option.some.inj hx').symm
  obtain ⟨s1, rfl⟩ : ∃ s, y = { x' with sh := s } := ⟨y.sh, e1⟩
  have hfx := hm.fit x' (List.mem_of_getElem? hx)
  have hax := hm.act x' (List.mem_of_getElem? hx)
  have hgv := hm.gv
  have hnn := hm.n
  have hil2 : i < (pickL m.k m.L (cand m.L now)).length := by rw [pickL_len]; exact hil
  have hS : pickS m.k m.L now (cand m.L now) i = (pickL m.k m.L (cand m.L now)).set i { x' with sh := s1, act := x'.act + 1, b := alB x'.b now } := by unfold pickS; rw [gB_at hy, gB_at hx]
  have hSe : ((pickL m.k m.L (cand m.L now)).set i { x' with sh := s1, act := x'.act + 1 }).flatMap encB = (pickS m.k m.L now (cand m.L now) i).flatMap encB := by
    rw [hS, List.flatMap_def, List.flatMap_def, List.map_set, List.map_set]
  have hSb : bks (m.L.set i { x' with b := alB x'.b now }) = bks (pickS m.k m.L now (cand m.L now) i) := by
    have e := pickL_bks m.k m.L (cand m.L now)
    unfold bks at e ⊢
    rw [hS, List.map_set, List.map_set, e]
  have hnk : ((m.gv + 1 : Nat) : Int) ∉ C.map (·.1) := fun h => by
    obtain ⟨c, hc, e⟩ := List.mem_map.1 h
    have := hm.ky c hc
    omega
  refine Spec.of (E := [(0, ptrB m.p), (1, .int .u64 (now : Int)), (2, .string key)]) Try.func12 rfl (by kernel_rfl) Try.ntmps12 rfl rfl (fun w => ?_)
  refine WC_seq ?_
  refine WC_region ?_
  refine WL_do rfl rfl rfl (D_alloc rfl zv36) ?_
  rintro _ _ ⟨b1, rfl, rfl⟩
  refine WL_val rfl rfl rfl (R_assign rfl rfl) ?_
  refine WL_nil ?_
  refine WQ_code ?_
  refine WC_seq ?_
  refine WC_seq ?_
  refine WC_region ?_
  refine WL_val rfl rfl rfl (R_move rfl rfl) ?_
  refine WL_val rfl rfl rfl (R_move rfl rfl) ?_
  refine WL_val rfl rfl rfl (R_lenStr rfl Try.underlying9 rfl) ?_
  refine WL_val rfl rfl rfl (R_leq rfl rfl rfl) ?_
  refine WL_val rfl rfl rfl (R_move rfl rfl) ?_
  refine WL_do rfl rfl rfl (D_call (bmay_ok m (decide ((key.size : Int) ≤ 64)) now) rfl rfl rfl rfl (pqY)) ?_
  rintro _ _ ⟨_, ⟨rfl, rfl⟩, rfl⟩
  refine WL_val rfl rfl rfl (R_assign rfl rfl) ?_
  refine WL_nil ?_
  refine WQ_code ?_
  refine WC_seq ?_
  refine WC_region ?_
  refine WL_val rfl rfl rfl (R_move rfl rfl) ?_
  refine WL_val rfl rfl rfl (R_neq rfl rfl rfl) ?_
  refine WL_nil ?_
  refine WQ_code ?_
  refine WC_dF rfl (by rw [hmay]; decide) ?_
  refine WC_skip ?_
  refine WQ_code ?_
  refine WC_seq ?_
  refine WC_region ?_
  refine WL_val rfl rfl rfl (R_move rfl rfl) ?_
  refine WL_val rfl rfl rfl (R_move rfl rfl) ?_
  refine WL_do rfl rfl rfl (D_call (bcand_ok m N C hm now h1 h2) rfl rfl rfl rfl (pqY)) ?_
  rintro _ _ ⟨_, ⟨o9, c9, tl9, rfl, own9, rfl⟩, rfl⟩
  refine WL_val rfl rfl rfl (R_assign rfl rfl) ?_
  refine WL_nil ?_
  refine WQ_code ?_
  refine WC_seq ?_
  refine WC_block ?_
  refine WC_seq ?_
  refine WC_region ?_
  refine WL_val rfl rfl rfl (R_move rfl rfl) ?_
  refine WL_val rfl rfl rfl (R_nilCheck rfl rfl) ?_
  refine WL_val rfl rfl rfl (R_fieldAddr rfl fa57_4 rfl) ?_
  refine WL_val rfl rfl rfl (R_load rfl sc55 rfl (mmY) rfl) ?_
  refine WL_val rfl rfl rfl (R_lenMap rfl Try.underlying55 rfl mmY hm.mp) ?_
  refine WL_val rfl rfl rfl (R_geq rfl rfl rfl) ?_
  refine WL_val rfl rfl rfl (R_assign rfl rfl) ?_
  refine WL_nil ?_
  refine WQ_code ?_
  refine WC_dF rfl (by omega) ?_
  refine WC_seq ?_
  refine WC_region ?_
  refine WL_val rfl rfl rfl (R_move rfl rfl) ?_
  refine WL_val rfl rfl rfl (R_len rfl Try.underlying26 rfl) ?_
  refine WL_val rfl rfl rfl (R_eql rfl rfl rfl) ?_
  refine WL_val rfl rfl rfl (R_assign rfl rfl) ?_
  refine WL_nil ?_
  refine WQ_code ?_
  refine WC_dF rfl (by omega) ?_
  refine WC_skip ?_
  refine WQ_code ?_
  refine WC_seq ?_
  refine WC_region ?_
  refine WL_val rfl rfl rfl (R_move rfl rfl) ?_
  refine WL_val rfl rfl rfl (R_nilCheck rfl rfl) ?_
  refine WL_val rfl rfl rfl (R_fieldAddr rfl fa57_0 rfl) ?_
  refine WL_val rfl rfl rfl (R_load rfl sc53 rfl (mmY) rfl) ?_
  refine WL_val rfl rfl rfl (R_move rfl rfl) ?_
  refine WL_val rfl rfl rfl (R_move rfl rfl) ?_
  refine WL_val rfl rfl rfl (R_move rfl rfl) ?_
  refine WL_do rfl rfl rfl (D_call (choose_ok m N C hm (by omega) (cand m.L now) o9 c9 tl9 own9 hl1 hlb hin key (by omega)) rfl rfl rfl rfl (pqY)) ?_
  rintro _ _ ⟨_, ⟨rfl, rfl⟩, rfl⟩
  refine WL_set (s := 46) (v := .int .i64 (i : Int)) rfl (congrArg (Value.int .i64) hi) ?_
  refine WL_val rfl rfl rfl (R_assign rfl rfl) ?_
  refine WL_nil ?_
  refine WQ_code ?_
  refine WC_seq ?_
  refine WC_region ?_
  refine WL_val rfl rfl rfl (R_move rfl rfl) ?_
  refine WL_val rfl rfl rfl (R_nilCheck rfl rfl) ?_
  refine WL_val rfl rfl rfl (R_fieldAddr rfl fa57_1 rfl) ?_
  refine WL_val rfl rfl rfl (R_load rfl sc54 rfl (mmY) rfl) ?_
  refine WL_val rfl rfl rfl (R_move rfl rfl) ?_
  refine WL_val rfl rfl rfl (R_indexAddrN rfl Try.underlying54 Try.sizeOf73 rfl rfl (by omega)) ?_
  refine WL_val rfl rfl rfl (R_fieldAddr rfl fa73_4 rfl) ?_
  refine WL_val rfl rfl rfl (R_load (v := ptrB x'.p) rfl sc69 rfl (mmY) (fm_get0 encB5 hy (j := 4) (by omega))) ?_
  refine WL_val rfl rfl rfl (R_move rfl rfl) ?_
  refine WL_do rfl rfl rfl (D_call (allow_at hx hfx.1 now (by omega) h2 hr) rfl rfl rfl rfl (pqY)) ?_
  rintro _ _ ⟨_, ⟨rfl, rfl⟩, rfl⟩
  rw [hSb]
  refine WL_val rfl rfl rfl (R_move rfl rfl) ?_
  refine WL_val rfl rfl rfl (R_extract rfl rfl rfl) ?_
  refine WL_val rfl rfl rfl (R_extract rfl rfl rfl) ?_
  refine WL_val rfl rfl rfl (R_assign rfl rfl) ?_
  refine WL_val rfl rfl rfl (R_assign rfl rfl) ?_
  refine WL_nil ?_
  refine WQ_code ?_
  refine WC_seq ?_
  refine WC_region ?_
  refine WL_val rfl rfl rfl (R_move rfl rfl) ?_
  refine WL_val rfl rfl rfl (R_nilCheck rfl rfl) ?_
  refine WL_val rfl rfl rfl (R_fieldAddr rfl fa57_1 rfl) ?_
  refine WL_val rfl rfl rfl (R_load rfl sc54 rfl (mmY) rfl) ?_
  refine WL_val rfl rfl rfl (R_move rfl rfl) ?_
  refine WL_val rfl rfl rfl (R_indexAddrN rfl Try.underlying54 Try.sizeOf73 rfl rfl (by omega)) ?_
  refine WL_val rfl rfl rfl (R_fieldAddr rfl fa73_2 rfl) ?_
  refine WL_val rfl rfl rfl (R_load (v := .int .i64 x'.act) rfl sc3 rfl (mmY) (fm_get0 encB5 hy (j := 2) (by omega))) ?_
  refine WL_val rfl rfl rfl (R_add rfl rfl rfl (by omega)) ?_
  refine WL_val rfl rfl rfl (R_indexAddrN rfl Try.underlying54 Try.sizeOf73 rfl rfl (by omega)) ?_
  refine WL_val rfl rfl rfl (R_fieldAddr rfl fa73_2 rfl) ?_
  refine WL_do0 rfl rfl (D_store (vs := [_]) rfl Try.sizeOf3 rfl rfl rfl rfl rfl (plY) (by exact fm_room0 encB5 hil2 (j := 2) (by omega))) ?_
  rintro _ _ rfl
  have hput := fm_put0 encB5 ({ x' with sh := s1, act := x'.act + 1 } : Bk) hy (j := 2) (vs := [.int .i64 (x'.act + 1)]) (by simp) rfl (tl := m.tl)
  rw [hput, hSe]
  refine WL_nil ?_
  refine WQ_code ?_
  refine WC_seq ?_
  refine WC_region ?_
  refine WL_val rfl rfl rfl (R_move rfl rfl) ?_
  refine WL_val rfl rfl rfl (R_nilCheck rfl rfl) ?_
  refine WL_val rfl rfl rfl (R_fieldAddr rfl fa57_3 rfl) ?_
  refine WL_val rfl rfl rfl (R_load (v := .int .i64 (m.gv : Int)) rfl sc3 rfl (mmY) (rfl)) ?_
  refine WL_val rfl rfl rfl (R_addR (r := ((m.gv + 1 : Nat) : Int)) rfl rfl rfl (by rw [wrap64_in (by omega) (by omega)]; omega)) ?_
  refine WL_val rfl rfl rfl (R_nilCheck rfl rfl) ?_
  refine WL_val rfl rfl rfl (R_fieldAddr rfl fa57_3 rfl) ?_
  refine WL_do0 rfl rfl (D_store (vs := [_]) rfl Try.sizeOf3 rfl rfl rfl rfl rfl (plY) (by exact Nat.le_of_ble_eq_true rfl)) ?_
  rintro _ _ rfl
  refine WL_nil ?_
  refine WQ_code ?_
  refine WC_seq ?_
  refine WC_region ?_
  refine WL_val rfl rfl rfl (R_move rfl rfl) ?_
  refine WL_val rfl rfl rfl (R_move rfl rfl) ?_
  refine WL_val rfl rfl rfl (R_nilCheck rfl rfl) ?_
  refine WL_val rfl rfl rfl (R_fieldAddr rfl fa57_5 rfl) ?_
  refine WL_do0 rfl rfl (D_store (vs := [_]) rfl Try.sizeOf30 rfl rfl rfl rfl rfl (plY) (by exact Nat.le_of_ble_eq_true rfl)) ?_
  rintro _ _ rfl
  refine WL_nil ?_
  refine WQ_code ?_
  refine WC_seq ?_
  refine WC_drawR [⟨some m.mb, _⟩] [(0, true), (1, true), (2, true), (3, true), (4, true), (5, true), (6, true), (7, true), (8, true), (9, true), (10, true), (11, false)] followsMixed rfl rfl (by kernel_rfl) (pqY) ?_
  refine WM_val rfl rfl rfl rfl (R_move rfl rfl) ?_
  refine WM_val rfl rfl rfl rfl (R_nilCheck rfl rfl) ?_
  refine WM_val rfl rfl rfl rfl (R_fieldAddr rfl fa57_4 rfl) ?_
  refine WM_val rfl rfl rfl rfl (R_load rfl sc55 rfl (mmY) rfl) ?_
  refine WM_val rfl rfl rfl rfl (R_move rfl rfl) ?_
  refine WM_val rfl rfl rfl rfl (R_nilCheck rfl rfl) ?_
  refine WM_val rfl rfl rfl rfl (R_fieldAddr rfl fa57_3 rfl) ?_
  refine WM_val rfl rfl rfl rfl (R_load rfl sc3 rfl (mmY) rfl) ?_
  refine WM_val rfl rfl rfl rfl (R_move rfl rfl) ?_
  refine WM_val rfl rfl rfl rfl (R_move rfl rfl) ?_
  refine WM_val rfl rfl rfl rfl (R_build rfl zv77 pl77 rfl rfl) ?_
  refine WM_do0 rfl rfl rfl (D_mapAdd (ek := ekI) (ev := evC) (k := ((m.gv + 1 : Nat) : Int)) (v := ((i : Int), (alB x'.b now).gen)) rfl Try.underlying55 Try.underlying3 rfl rfl rfl plY hm.mp hnk) ?_
  rintro _ _ ⟨es1, mc1, hM1, rfl⟩
  refine ⟨⟨_, pqY⟩, ?_⟩
  refine WM_nil ?_
  refine WQ_code ?_
  refine WC_seq ?_
  refine WC_region ?_
  refine WL_val rfl rfl rfl (R_move rfl rfl) ?_
  refine WL_val rfl rfl rfl (R_move rfl rfl) ?_
  refine WL_val rfl rfl rfl (R_nilCheck rfl rfl) ?_
  refine WL_val rfl rfl rfl (R_fieldAddr rfl fa57_3 rfl) ?_
  refine WL_val rfl rfl rfl (R_load rfl sc3 rfl (mmY) rfl) ?_
  refine WL_val rfl rfl rfl (R_build rfl zv36 pl36 rfl rfl) ?_
  refine WL_do0 rfl rfl (D_store (vs := [_, _]) rfl Try.sizeOf36 rfl rfl rfl rfl rfl (plY) (by exact Nat.le_of_ble_eq_true rfl)) ?_
  rintro _ _ rfl
  refine WL_val rfl rfl rfl (R_assign rfl rfl) ?_
  refine WL_nil ?_
  refine WQ_code ?_
  refine WC_ret ?_
  refine WQ_ret rfl rfl (.cons (.cell (vs := [_, _]) rfl ag36 (mmY) rfl (atZ)) (.cons (.tmp rfl) .nil)) rfl (by
      exact ⟨es1, mc1, rfl, hM1, rfl⟩) (pqY)
theorem bdone_bad (m : Bm) (now : Nat) (n : Int) (good : Bool) (h : mayB m true now ≠ 0) : Spec Try.prog 18 [ptrB m.p, .int .u64 (now : Int), .int .i64 n, .bool good] [bE1 m] (fun r H' => r = .int .i64 (mayB m true now) ∧ H' = [bE1 m]) := by
  refine Spec.of (E := [(0, ptrB m.p), (1, .int .u64 (now : Int)), (2, .int .i64 n), (3, .bool good)]) Try.func18 rfl (by kernel_rfl) Try.ntmps18 rfl rfl (fun w => ?_)
  refine WC_seq ?_
  refine WC_region ?_
  refine WL_val rfl rfl rfl (R_assign rfl rfl) ?_
  refine WL_nil ?_
  refine WQ_code ?_
  refine WC_seq ?_
  refine WC_seq ?_
  refine WC_region ?_
  refine WL_val rfl rfl rfl (R_move rfl rfl) ?_
  refine WL_val rfl rfl rfl (R_move rfl rfl) ?_
  refine WL_do rfl rfl rfl (D_call (bmay_ok m true now) rfl rfl rfl rfl (pqY)) ?_
  rintro _ _ ⟨_, ⟨rfl, rfl⟩, rfl⟩
  refine WL_val rfl rfl rfl (R_assign rfl rfl) ?_
  refine WL_nil ?_
  refine WQ_code ?_
  refine WC_seq ?_
  refine WC_region ?_
  refine WL_val rfl rfl rfl (R_move rfl rfl) ?_
  refine WL_val rfl rfl rfl (R_neq rfl rfl rfl) ?_
  refine WL_nil ?_
  refine WQ_code ?_
  refine WC_dT rfl (by exact h) ?_
  refine WC_seq ?_
  refine WC_region ?_
  refine WL_val rfl rfl rfl (R_move rfl rfl) ?_
  refine WL_val rfl rfl rfl (R_assign rfl rfl) ?_
  refine WL_nil ?_
  refine WQ_code ?_
  refine WC_ret ?_
  refine WQ_ret rfl rfl (.cons (.tmp rfl) .nil) rfl (by
      exact ⟨rfl, rfl⟩) (pqY)
theorem bdone_nil (now : Nat) (n : Int) (good : Bool) : Spec Try.prog 18 [.pointer none, .int .u64 (now : Int), .int .i64 n, .bool good] [] (fun r H' => r = .int .i64 1 ∧ H' = []) := by
  refine Spec.of (E := [(0, .pointer none), (1, .int .u64 (now : Int)), (2, .int .i64 n), (3, .bool good)]) Try.func18 rfl (by kernel_rfl) Try.ntmps18 rfl rfl (fun w => ?_)
  refine WC_seq ?_
  refine WC_region ?_
  refine WL_val rfl rfl rfl (R_assign rfl rfl) ?_
  refine WL_nil ?_
  refine WQ_code ?_
  refine WC_seq ?_
  refine WC_seq ?_
  refine WC_region ?_
  refine WL_val rfl rfl rfl (R_move rfl rfl) ?_
  refine WL_val rfl rfl rfl (R_move rfl rfl) ?_
  refine WL_do rfl rfl rfl (D_call (bmay_nil true now) rfl rfl rfl rfl (pqY)) ?_
  rintro _ _ ⟨_, ⟨rfl, rfl⟩, rfl⟩
  refine WL_val rfl rfl rfl (R_assign rfl rfl) ?_
  refine WL_nil ?_
  refine WQ_code ?_
  refine WC_seq ?_
  refine WC_region ?_
  refine WL_val rfl rfl rfl (R_move rfl rfl) ?_
  refine WL_val rfl rfl rfl (R_neq rfl rfl rfl) ?_
  refine WL_nil ?_
  refine WQ_code ?_
  refine WC_dT rfl (by decide) ?_
  refine WC_seq ?_
  refine WC_region ?_
  refine WL_val rfl rfl rfl (R_move rfl rfl) ?_
  refine WL_val rfl rfl rfl (R_assign rfl rfl) ?_
  refine WL_nil ?_
  refine WQ_code ?_
  refine WC_ret ?_
  refine WQ_ret rfl rfl (.cons (.tmp rfl) .nil) rfl (by
      exact ⟨rfl, rfl⟩) (pqY)
theorem bdone_zero (p now : Nat) (n : Int) (good : Bool) : Spec Try.prog 18 [ptrB p, .int .u64 (now : Int), .int .i64 n, .bool good] [⟨some p, cl balZ 57⟩] (fun r H' => r = .int .i64 1 ∧ H' = [⟨some p, cl balZ 57⟩]) := by
  refine Spec.of (E := [(0, ptrB p), (1, .int .u64 (now : Int)), (2, .int .i64 n), (3, .bool good)]) Try.func18 rfl (by kernel_rfl) Try.ntmps18 rfl rfl (fun w => ?_)
  refine WC_seq ?_
  refine WC_region ?_
  refine WL_val rfl rfl rfl (R_assign rfl rfl) ?_
  refine WL_nil ?_
  refine WQ_code ?_
  refine WC_seq ?_
  refine WC_seq ?_
  refine WC_region ?_
  refine WL_val rfl rfl rfl (R_move rfl rfl) ?_
  refine WL_val rfl rfl rfl (R_move rfl rfl) ?_
  refine WL_do rfl rfl rfl (D_call (bmay_zero p true now) rfl rfl rfl rfl (pqY)) ?_
  rintro _ _ ⟨_, ⟨rfl, rfl⟩, rfl⟩
  refine WL_val rfl rfl rfl (R_assign rfl rfl) ?_
  refine WL_nil ?_
  refine WQ_code ?_
  refine WC_seq ?_
  refine WC_region ?_
  refine WL_val rfl rfl rfl (R_move rfl rfl) ?_
  refine WL_val rfl rfl rfl (R_neq rfl rfl rfl) ?_
  refine WL_nil ?_
  refine WQ_code ?_
  refine WC_dT rfl (by decide) ?_
  refine WC_seq ?_
  refine WC_region ?_
  refine WL_val rfl rfl rfl (R_move rfl rfl) ?_
  refine WL_val rfl rfl rfl (R_assign rfl rfl) ?_
  refine WL_nil ?_
  refine WQ_code ?_
  refine WC_ret ?_
  refine WQ_ret rfl rfl (.cons (.tmp rfl) .nil) rfl (by
      exact ⟨rfl, rfl⟩) (pqY)
theorem bdone_none (m : Bm) (N : Nat) (C : List Cl) (hm : BalIs N m C) (now : Nat) (n : Int) (good : Bool) (h1 : m.last ≤ now) (h2 : now ≤ 18446744073709551614) (hn : n ∉ C.map (·.1)) : Spec Try.prog 18 [ptrB m.p, .int .u64 (now : Int), .int .i64 n, .bool good] [bE1 m, bE3 m] (fun r H' => r = .int .i64 9 ∧ H' = [bE1 m, bE3 m]) := by
  have hmay : mayB m true now = 0 := by unfold mayB; rw [if_neg (by decide), if_neg (by omega)]
  refine Spec.of (E := [(0, ptrB m.p), (1, .int .u64 (now : Int)), (2, .int .i64 n), (3, .bool good)]) Try.func18 rfl (by kernel_rfl) Try.ntmps18 rfl rfl (fun w => ?_)
  refine WC_seq ?_
  refine WC_region ?_
  refine WL_val rfl rfl rfl (R_assign rfl rfl) ?_
  refine WL_nil ?_
  refine WQ_code ?_
  refine WC_seq ?_
  refine WC_seq ?_
  refine WC_region ?_
  refine WL_val rfl rfl rfl (R_move rfl rfl) ?_
  refine WL_val rfl rfl rfl (R_move rfl rfl) ?_
  refine WL_do rfl rfl rfl (D_call (bmay_ok m true now) rfl rfl rfl rfl (pqY)) ?_
  rintro _ _ ⟨_, ⟨rfl, rfl⟩, rfl⟩
  refine WL_val rfl rfl rfl (R_assign rfl rfl) ?_
  refine WL_nil ?_
  refine WQ_code ?_
  refine WC_seq ?_
  refine WC_region ?_
  refine WL_val rfl rfl rfl (R_move rfl rfl) ?_
  refine WL_val rfl rfl rfl (R_neq rfl rfl rfl) ?_
  refine WL_nil ?_
  refine WQ_code ?_
  refine WC_dF rfl (by rw [hmay]; decide) ?_
  refine WC_skip ?_
  refine WQ_code ?_
  refine WC_seq ?_
  refine WC_region ?_
  refine WL_val rfl rfl rfl (R_move rfl rfl) ?_
  refine WL_val rfl rfl rfl (R_nilCheck rfl rfl) ?_
  refine WL_val rfl rfl rfl (R_fieldAddr rfl fa57_4 rfl) ?_
  refine WL_val rfl rfl rfl (R_load rfl sc55 rfl (mmY) rfl) ?_
  refine WL_val rfl rfl rfl (R_move rfl rfl) ?_
  refine WL_val rfl rfl rfl (R_lookF (ek := ekI) (ev := evC) (k := n) rfl Try.underlying55 Try.underlying3 rfl rfl mmY hm.mp hn Try.zeroValue77) ?_
  refine WL_val rfl rfl rfl (R_move rfl rfl) ?_
  refine WL_val rfl rfl rfl (R_extract rfl rfl rfl) ?_
  refine WL_val rfl rfl rfl (R_extract rfl rfl rfl) ?_
  refine WL_do rfl rfl rfl (D_alloc rfl zv77) ?_
  rintro _ _ ⟨b1, rfl, rfl⟩
  refine WL_do0 rfl rfl (D_store (vs := [_, _]) rfl Try.sizeOf77 rfl rfl rfl rfl rfl (plY) (by exact Nat.le_of_ble_eq_true rfl)) ?_
  rintro _ _ rfl
  refine WL_val rfl rfl rfl (R_assign rfl rfl) ?_
  refine WL_nil ?_
  refine WQ_code ?_
  refine WC_seq ?_
  refine WC_seq ?_
  refine WC_region ?_
  refine WL_val rfl rfl rfl (R_move rfl rfl) ?_
  refine WL_val rfl rfl rfl (R_not rfl rfl) ?_
  refine WL_nil ?_
  refine WQ_code ?_
  refine WC_T rfl ?_
  refine WC_seq ?_
  refine WC_region ?_
  refine WL_val rfl rfl rfl (R_assign rfl rfl) ?_
  refine WL_nil ?_
  refine WQ_code ?_
  refine WC_ret ?_
  refine WQ_ret rfl rfl (.cons (.tmp rfl) .nil) rfl (by
      exact ⟨rfl, rfl⟩) (pqY)
def doneS (L : List Bk) (now : Nat) (j : Nat) (gn : Int) (good : Bool) : List Bk := L.set j { gB L (j : Int) with act := (gB L (j : Int)).act - 1, b := dnK (gB L (j : Int)).b now gn good }
theorem bdone_raw (m : Bm) (N : Nat) (C : List Cl) (hm : BalIs N m C) (hN : N ≤ 9000) (now : Nat) (n : Int) (good : Bool) (h1 : m.last ≤ now) (h2 : now ≤ 18446744073709551614) (j : Nat) (gn : Int) (x : Bk) (hx : m.L[j]? = some x) (hc : (n, ((j : Int), gn)) ∈ C) (hg : 0 ≤ gn ∧ gn ≤ x.b.gen) :
    Spec Try.prog 18 [ptrB m.p, .int .u64 (now : Int), .int .i64 n, .bool good] (balH m) (fun r H' => ∃ es' mc', r = .int .i64 0 ∧ Mp (.int .i64) ekI evC es' (delL C n) ∧ H' = balH { m with L := doneS m.L now j gn good, last := now, es := es', mc := mc' }) := by
  have hmay : mayB m true now = 0 := by unfold mayB; rw [if_neg (by decide), if_neg (by omega)]
  have hjl := (List.getElem?_eq_some_iff.1 hx).1
  have hjn : j < m.n := by rw [← hm.hn]; exact hjl
  have hfx := hm.fit x (List.mem_of_getElem? hx)
  have hax := hm.act x (List.mem_of_getElem? hx)
  have hnn := hm.n
  have hS : doneS m.L now j gn good = m.L.set j { x with act := x.act - 1, b := dnK x.b now gn good } := by unfold doneS; rw [gB_at hx]
  have hSe : (m.L.set j { x with act := x.act - 1 }).flatMap encB = (doneS m.L now j gn good).flatMap encB := by
    rw [hS, List.flatMap_def, List.flatMap_def, List.map_set, List.map_set]
  have hSb : bks (m.L.set j { x with b := dnK x.b now gn good }) = bks (doneS m.L now j gn good) := by
    unfold bks
    rw [hS, List.map_set, List.map_set]
  refine Spec.of (E := [(0, ptrB m.p), (1, .int .u64 (now : Int)), (2, .int .i64 n), (3, .bool good)]) Try.func18 rfl (by kernel_rfl) Try.ntmps18 rfl rfl (fun w => ?_)
  refine WC_seq ?_
  refine WC_region ?_
  refine WL_val rfl rfl rfl (R_assign rfl rfl) ?_
  refine WL_nil ?_
  refine WQ_code ?_
  refine WC_seq ?_
  refine WC_seq ?_
  refine WC_region ?_
  refine WL_val rfl rfl rfl (R_move rfl rfl) ?_
  refine WL_val rfl rfl rfl (R_move rfl rfl) ?_
  refine WL_do rfl rfl rfl (D_call (bmay_ok m true now) rfl rfl rfl rfl (pqY)) ?_
  rintro _ _ ⟨_, ⟨rfl, rfl⟩, rfl⟩
  refine WL_val rfl rfl rfl (R_assign rfl rfl) ?_
  refine WL_nil ?_
  refine WQ_code ?_
  refine WC_seq ?_
  refine WC_region ?_
  refine WL_val rfl rfl rfl (R_move rfl rfl) ?_
  refine WL_val rfl rfl rfl (R_neq rfl rfl rfl) ?_
  refine WL_nil ?_
  refine WQ_code ?_
  refine WC_dF rfl (by rw [hmay]; decide) ?_
  refine WC_skip ?_
  refine WQ_code ?_
  refine WC_seq ?_
  refine WC_region ?_
  refine WL_val rfl rfl rfl (R_move rfl rfl) ?_
  refine WL_val rfl rfl rfl (R_nilCheck rfl rfl) ?_
  refine WL_val rfl rfl rfl (R_fieldAddr rfl fa57_4 rfl) ?_
  refine WL_val rfl rfl rfl (R_load rfl sc55 rfl (mmY) rfl) ?_
  refine WL_val rfl rfl rfl (R_move rfl rfl) ?_
  refine WL_val rfl rfl rfl (R_lookT (ek := ekI) (ev := evC) (k := n) (a := ((j : Int), gn)) rfl Try.underlying55 Try.underlying3 rfl rfl mmY hm.mp hc) ?_
  refine WL_val rfl rfl rfl (R_move rfl rfl) ?_
  refine WL_val rfl rfl rfl (R_extract rfl rfl rfl) ?_
  refine WL_val rfl rfl rfl (R_extract rfl rfl rfl) ?_
  refine WL_do rfl rfl rfl (D_alloc rfl zv77) ?_
  rintro _ _ ⟨b1, rfl, rfl⟩
  refine WL_do0 rfl rfl (D_store (vs := [_, _]) rfl Try.sizeOf77 rfl rfl rfl rfl rfl (plY) (by exact Nat.le_of_ble_eq_true rfl)) ?_
  rintro _ _ rfl
  refine WL_val rfl rfl rfl (R_assign rfl rfl) ?_
  refine WL_nil ?_
  refine WQ_code ?_
  refine WC_seq ?_
  refine WC_seq ?_
  refine WC_region ?_
  refine WL_val rfl rfl rfl (R_move rfl rfl) ?_
  refine WL_val rfl rfl rfl (R_not rfl rfl) ?_
  refine WL_nil ?_
  refine WQ_code ?_
  refine WC_F rfl ?_
  refine WC_skip ?_
  refine WQ_code ?_
  refine WC_seq ?_
  refine WC_region ?_
  refine WL_val rfl rfl rfl (R_move rfl rfl) ?_
  refine WL_val rfl rfl rfl (R_nilCheck rfl rfl) ?_
  refine WL_val rfl rfl rfl (R_fieldAddr rfl fa57_4 rfl) ?_
  refine WL_val rfl rfl rfl (R_load rfl sc55 rfl (mmY) rfl) ?_
  refine WL_val rfl rfl rfl (R_move rfl rfl) ?_
  refine WL_do0 rfl rfl (D_delete (ek := ekI) (ev := evC) (k := n) (a := ((j : Int), gn)) rfl Try.underlying55 Try.underlying3 rfl rfl plY hm.mp hc) ?_
  rintro _ _ ⟨es1, mc1, hM1, rfl⟩
  refine WL_nil ?_
  refine WQ_code ?_
  refine WC_seq ?_
  refine WC_draw _ [(0, true), (1, true), (2, true), (3, true), (4, true), (5, true), (6, true), (7, true)] followsMixed rfl rfl (by kernel_rfl) .all ?_
  refine WM_val rfl rfl rfl rfl (R_move rfl rfl) ?_
  refine WM_val rfl rfl rfl rfl (R_nilCheck rfl rfl) ?_
  refine WM_val rfl rfl rfl rfl (R_fieldAddr rfl fa57_1 rfl) ?_
  refine WM_val rfl rfl rfl rfl (R_load rfl sc54 rfl (mmY) rfl) ?_
  refine WM_val rfl rfl rfl rfl (R_fieldAddr rfl fa77_0 rfl) ?_
  refine WM_val rfl rfl rfl rfl (R_load rfl sc3 rfl (mmY) rfl) ?_
  refine WM_val rfl rfl rfl rfl (R_indexAddrN rfl Try.underlying54 Try.sizeOf73 rfl rfl (by omega)) ?_
  refine WM_val rfl rfl rfl rfl (R_assign rfl rfl) ?_
  refine WM_nil ?_
  refine WQ_code ?_
  refine WC_seq ?_
  refine WC_region ?_
  refine WL_val rfl rfl rfl (R_move rfl rfl) ?_
  refine WL_val rfl rfl rfl (R_nilCheck rfl rfl) ?_
  refine WL_val rfl rfl rfl (R_fieldAddr rfl fa73_2 rfl) ?_
  refine WL_val rfl rfl rfl (R_load (v := .int .i64 x.act) rfl sc3 rfl (mmY) (fm_get0 encB5 hx (j := 2) (by omega))) ?_
  refine WL_val rfl rfl rfl (R_sub rfl rfl rfl (by omega)) ?_
  refine WL_val rfl rfl rfl (R_nilCheck rfl rfl) ?_
  refine WL_val rfl rfl rfl (R_fieldAddr rfl fa73_2 rfl) ?_
  refine WL_do0 rfl rfl (D_store (vs := [_]) rfl Try.sizeOf3 rfl rfl rfl rfl rfl (plY) (by exact fm_room0 encB5 hjl (j := 2) (by omega))) ?_
  rintro _ _ rfl
  have hput := fm_put0 encB5 ({ x with act := x.act - 1 } : Bk) hx (j := 2) (vs := [.int .i64 (x.act - 1)]) (by simp) rfl (tl := m.tl)
  rw [hput]
  have hx2 : (m.L.set j { x with act := x.act - 1 })[j]? = some { x with act := x.act - 1 } := by rw [List.getElem?_set, if_pos rfl, if_pos hjl]
  refine WL_nil ?_
  refine WQ_code ?_
  refine WC_seq ?_
  refine WC_region ?_
  refine WL_val rfl rfl rfl (R_move rfl rfl) ?_
  refine WL_val rfl rfl rfl (R_move rfl rfl) ?_
  refine WL_val rfl rfl rfl (R_nilCheck rfl rfl) ?_
  refine WL_val rfl rfl rfl (R_fieldAddr rfl fa57_5 rfl) ?_
  refine WL_do0 rfl rfl (D_store (vs := [_]) rfl Try.sizeOf30 rfl rfl rfl rfl rfl (plY) (by exact Nat.le_of_ble_eq_true rfl)) ?_
  rintro _ _ rfl
  refine WL_nil ?_
  refine WQ_code ?_
  refine WC_seq ?_
  refine WC_drawR (bks m.L) [(0, true), (1, true), (2, true), (3, true), (4, true), (5, true), (6, true), (7, true), (8, false)] followsMixed rfl rfl (by kernel_rfl) (pqY) ?_
  refine WM_val rfl rfl rfl rfl (R_move rfl rfl) ?_
  refine WM_val rfl rfl rfl rfl (R_nilCheck rfl rfl) ?_
  refine WM_val rfl rfl rfl rfl (R_fieldAddr rfl fa73_4 rfl) ?_
  refine WM_val rfl rfl rfl rfl (R_load (v := ptrB x.p) rfl sc69 rfl (mmY) (fm_get0 encB5 hx2 (j := 4) (by omega))) ?_
  refine WM_val rfl rfl rfl rfl (R_move rfl rfl) ?_
  refine WM_val rfl rfl rfl rfl (R_fieldAddr rfl fa77_1 rfl) ?_
  refine WM_val rfl rfl rfl rfl (R_load rfl sc3 rfl (mmY) rfl) ?_
  refine WM_val rfl rfl rfl rfl (R_move rfl rfl) ?_
  refine WM_do rfl rfl rfl rfl (D_call (done_at hx hfx.1 now (by omega) h2 gn hg good) rfl rfl rfl rfl (pqY)) ?_
  rintro _ _ ⟨_, ⟨rfl, rfl⟩, rfl⟩
  refine ⟨⟨_, pqY⟩, ?_⟩
  rw [hSb, hSe]
  refine WM_nil ?_
  refine WQ_code ?_
  refine WC_seq ?_
  refine WC_region ?_
  refine WL_val rfl rfl rfl (R_assign rfl rfl) ?_
  refine WL_nil ?_
  refine WQ_code ?_
  refine WC_ret ?_
  refine WQ_ret rfl rfl (.cons (.tmp rfl) .nil) rfl (by
      exact ⟨es1, mc1, rfl, hM1, rfl⟩) (pqY)

end Go.Proofs.Ytiokpmgbabpikaa
