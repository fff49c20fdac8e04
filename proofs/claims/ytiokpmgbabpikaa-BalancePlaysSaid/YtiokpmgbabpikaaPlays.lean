/-
  Chapter 48 (balance), part Plays: contracts of functions that the laws call, each for the heap it names.
-/
import Derived.Test.YtiokpmgbabpikaaRows
import Derived.Test.YtiokpmgbabpikaaZSLOpt
import Derived.Test.YtiokpmgbabpikaaTab
import Derived.Test.YtiokpmgbabpikaaSLIn
import Derived.Test.YtiokpmgbabpikaaAny
import Derived.Test.YtiokpmgbabpikaaBegin
import Derived.Test.YtiokpmgbabpikaaAlike
import Derived.Test.YtiokpmgbabpikaaKnown
set_option linter.unusedVariables false
set_option maxRecDepth 20000
set_option maxHeartbeats 8000000
namespace Go.Proofs.Ytiokpmgbabpikaa


theorem plays_big (k : Int) (W : List Int) (oa : Option Addr) (c : Nat) (ent : Ent) (ha : Rd oa ent W) (limit : Int) (op : Nat) (T : List PA) (oa2 : Option Addr) (c2 : Nat) (h : 70 < W.length ∨ 40 < T.length) : Spec Try.prog 5 [.int .i64 k, .slice oa W.length c, .int .i64 limit, .int .u64 (op : Int), .slice oa2 T.length c2] [] (fun r H' => r = .bool true ∧ H' = []) := by
  refine Spec.of (E := [(0, .int .i64 k), (1, .slice oa W.length c), (2, .int .i64 limit), (3, .int .u64 (op : Int)), (4, .slice oa2 T.length c2)]) Try.func5 rfl (by kernel_rfl) Try.ntmps5 rfl rfl (fun w => ?_)
  refine WC_seq ?_
  refine WC_region ?_
  refine WL_val rfl rfl rfl (R_assign rfl rfl) ?_
  refine WL_nil ?_
  refine WQ_code ?_
  refine WC_seq ?_
  refine WC_seq ?_
  refine WC_region ?_
  refine WL_val rfl rfl rfl (R_move rfl rfl) ?_
  refine WL_val rfl rfl rfl (R_len rfl Try.underlying26 rfl) ?_
  refine WL_val rfl rfl rfl (R_gtr rfl rfl rfl) ?_
  refine WL_val rfl rfl rfl (R_move rfl rfl) ?_
  refine WL_splitD (s := 23) rfl (fun c1 => ?_) (fun c1 => ?_)
  · refine WL_skip rfl rfl rfl ?_
    refine WL_skip rfl rfl rfl ?_
    refine WL_skip rfl rfl rfl ?_
    refine WL_val rfl rfl rfl (R_pickT rfl rfl rfl) ?_
    refine WL_nil ?_
    refine WQ_code ?_
    refine WC_T rfl ?_
    refine WC_seq ?_
    refine WC_region ?_
    refine WL_do rfl rfl rfl (D_call (known_ok) rfl rfl rfl rfl (pqY)) ?_
    rintro _ _ ⟨_, ⟨rfl, rfl⟩, rfl⟩
    refine WL_val rfl rfl rfl (R_assign rfl rfl) ?_
    refine WL_nil ?_
    refine WQ_code ?_
    refine WC_ret ?_
    refine WQ_ret rfl rfl (.cons (.tmp rfl) .nil) rfl (by
        exact ⟨rfl, rfl⟩) (pqY)
  · refine WL_val rfl rfl rfl (R_move rfl rfl) ?_
    refine WL_val rfl rfl rfl (R_len rfl Try.underlying41 rfl) ?_
    refine WL_val rfl rfl rfl (R_gtr rfl rfl rfl) ?_
    refine WL_val rfl rfl rfl (R_pickF rfl rfl rfl) ?_
    refine WL_nil ?_
    refine WQ_code ?_
    refine WC_dec rfl (fun c2 => ?_) (fun c2 => ?_)
    · refine WC_seq ?_
      refine WC_region ?_
      refine WL_do rfl rfl rfl (D_call (known_ok) rfl rfl rfl rfl (pqY)) ?_
      rintro _ _ ⟨_, ⟨rfl, rfl⟩, rfl⟩
      refine WL_val rfl rfl rfl (R_assign rfl rfl) ?_
      refine WL_nil ?_
      refine WQ_code ?_
      refine WC_ret ?_
      refine WQ_ret rfl rfl (.cons (.tmp rfl) .nil) rfl (by
          exact ⟨rfl, rfl⟩) (pqY)
    · exfalso; omega
theorem plays_bad (k : Int) (W : List Int) (oa : Option Addr) (c : Nat) (ent : Ent) (ha : Rd oa ent W) (limit : Int) (op : Nat) (T : List PA) (oa2 : Option Addr) (c2 : Nat) (h1 : W.length ≤ 70) (h2 : T.length ≤ 40) (hv : ¬ VOk k W limit op) : Spec Try.prog 5 [.int .i64 k, .slice oa W.length c, .int .i64 limit, .int .u64 (op : Int), .slice oa2 T.length c2] [ent] (fun r H' => r = .bool true ∧ H' = [ent]) := by
  refine Spec.of (E := [(0, .int .i64 k), (1, .slice oa W.length c), (2, .int .i64 limit), (3, .int .u64 (op : Int)), (4, .slice oa2 T.length c2)]) Try.func5 rfl (by kernel_rfl) Try.ntmps5 rfl rfl (fun w => ?_)
  refine WC_seq ?_
  refine WC_region ?_
  refine WL_val rfl rfl rfl (R_assign rfl rfl) ?_
  refine WL_nil ?_
  refine WQ_code ?_
  refine WC_seq ?_
  refine WC_seq ?_
  refine WC_region ?_
  refine WL_val rfl rfl rfl (R_move rfl rfl) ?_
  refine WL_val rfl rfl rfl (R_len rfl Try.underlying26 rfl) ?_
  refine WL_val rfl rfl rfl (R_gtr rfl rfl rfl) ?_
  refine WL_val rfl rfl rfl (R_move rfl rfl) ?_
  refine WL_set (s := 23) (v := .bool false) rfl (by exact congrArg Value.bool (decide_eq_false (by omega))) ?_
  refine WL_val rfl rfl rfl (R_move rfl rfl) ?_
  refine WL_val rfl rfl rfl (R_len rfl Try.underlying41 rfl) ?_
  refine WL_val rfl rfl rfl (R_gtr rfl rfl rfl) ?_
  refine WL_val rfl rfl rfl (R_pickF rfl rfl rfl) ?_
  refine WL_nil ?_
  refine WQ_code ?_
  refine WC_dF rfl (by omega) ?_
  refine WC_skip ?_
  refine WQ_code ?_
  refine WC_seq ?_
  refine WC_region ?_
  refine WL_val rfl rfl rfl (R_move rfl rfl) ?_
  refine WL_do rfl rfl rfl (D_appendIn rfl si26 rfl rfl (fun h9 => rd_in ha mmY h9) (by rw [ivs_len]; omega) (by omega) (by omega)) ?_
  rintro _ _ ⟨o9, c9, tl9, rfl, own9, rfl⟩
  refine WL_val rfl rfl rfl (R_assign rfl rfl) ?_
  refine WL_nil ?_
  refine WQ_code ?_
  refine WC_seq ?_
  refine WC_region ?_
  refine WL_val rfl rfl rfl (R_move rfl rfl) ?_
  refine WL_val rfl rfl rfl (R_move rfl rfl) ?_
  refine WL_val rfl rfl rfl (R_move rfl rfl) ?_
  refine WL_val rfl rfl rfl (R_move rfl rfl) ?_
  refine WL_do rfl rfl rfl (D_call (bnew_bad k W _ _ _ (Rd.own (e := 3) own9) limit op hv) rfl rfl rfl rfl (pqY)) ?_
  rintro _ _ ⟨_, ⟨rfl, rfl⟩, rfl⟩
  refine WL_val rfl rfl rfl (R_move rfl rfl) ?_
  refine WL_val rfl rfl rfl (R_extract rfl rfl rfl) ?_
  refine WL_val rfl rfl rfl (R_extract rfl rfl rfl) ?_
  refine WL_val rfl rfl rfl (R_assign rfl rfl) ?_
  refine WL_val rfl rfl rfl (R_assign rfl rfl) ?_
  refine WL_nil ?_
  refine WQ_code ?_
  refine WC_seq ?_
  refine WC_seq ?_
  refine WC_region ?_
  refine WL_val rfl rfl rfl (R_move rfl rfl) ?_
  refine WL_val rfl rfl rfl (R_move rfl rfl) ?_
  refine WL_val rfl rfl rfl (R_move rfl rfl) ?_
  refine WL_val rfl rfl rfl (R_move rfl rfl) ?_
  refine WL_do rfl rfl rfl (D_call (valid_ok k W oa c ent ha limit op (by omega)) rfl rfl rfl rfl (pqY)) ?_
  rintro _ _ ⟨_, ⟨rfl, rfl⟩, rfl⟩
  refine WL_set (s := 43) (v := .bool false) rfl (by exact congrArg Value.bool (decide_eq_false hv)) ?_
  refine WL_val rfl rfl rfl (R_not rfl rfl) ?_
  refine WL_nil ?_
  refine WQ_code ?_
  refine WC_T rfl ?_
  refine WC_seq ?_
  refine WC_region ?_
  refine WL_val rfl rfl rfl (R_move rfl rfl) ?_
  refine WL_val rfl rfl rfl (R_ptrEqNil rfl Try.underlying31 rfl) ?_
  refine WL_val rfl rfl rfl (R_move rfl rfl) ?_
  refine WL_val rfl rfl rfl (R_move rfl rfl) ?_
  refine WL_val rfl rfl rfl (R_eql rfl rfl rfl) ?_
  refine WL_val rfl rfl rfl (R_pickT rfl rfl rfl) ?_
  refine WL_set (s := 50) (v := .bool true) rfl (by simp) ?_
  refine WL_val rfl rfl rfl (R_move rfl rfl) ?_
  refine WL_do rfl rfl rfl (D_call (known_ok) rfl rfl rfl rfl (pqY)) ?_
  rintro _ _ ⟨_, ⟨rfl, rfl⟩, rfl⟩
  refine WL_val rfl rfl rfl (R_pickT rfl rfl rfl) ?_
  refine WL_val rfl rfl rfl (R_assign rfl rfl) ?_
  refine WL_nil ?_
  refine WQ_code ?_
  refine WC_ret ?_
  refine WQ_ret rfl rfl (.cons (.tmp rfl) .nil) rfl (by
      exact ⟨rfl, rfl⟩) (pqY)
theorem plays_two (k : Nat) (W : List Int) (oa : Option Addr) (c : Nat) (ent : Ent) (ha : Rd oa ent W) (limit : Int) (op : Nat) (T : List PA) (oa2 : Option Addr) (c2 : Nat) (en2 : Ent) (ha2 : Arg oa2 en2 5 encP T) (hG : ∀ a ∈ T, a.now ≤ 18446744073709551615) (h1 : W.length ≤ 70) (h2 : T.length ≤ 40) (hvk : VOk k W limit op) : Spec Try.prog 5 [.int .i64 (k : Int), .slice oa W.length c, .int .i64 limit, .int .u64 (op : Int), .slice oa2 T.length c2] [ent, en2] (fun r H' => r = .bool true ∧ H' = [ent, en2]) := by
  have hv : (1 ≤ k ∧ k ≤ 4) ∧ (1 ≤ W.length ∧ W.length ≤ 64) ∧ (∀ w ∈ W, 1 ≤ w ∧ w ≤ 100) ∧ OkR limit 1 op := ⟨by have := hvk.1; omega, hvk.2⟩
  refine Spec.of (E := [(0, .int .i64 (k : Int)), (1, .slice oa W.length c), (2, .int .i64 limit), (3, .int .u64 (op : Int)), (4, .slice oa2 T.length c2)]) Try.func5 rfl (by kernel_rfl) Try.ntmps5 rfl rfl (fun w => ?_)
  refine WC_seq ?_
  refine WC_region ?_
  refine WL_val rfl rfl rfl (R_assign rfl rfl) ?_
  refine WL_nil ?_
  refine WQ_code ?_
  refine WC_seq ?_
  refine WC_seq ?_
  refine WC_region ?_
  refine WL_val rfl rfl rfl (R_move rfl rfl) ?_
  refine WL_val rfl rfl rfl (R_len rfl Try.underlying26 rfl) ?_
  refine WL_val rfl rfl rfl (R_gtr rfl rfl rfl) ?_
  refine WL_val rfl rfl rfl (R_move rfl rfl) ?_
  refine WL_set (s := 23) (v := .bool false) rfl (by exact congrArg Value.bool (decide_eq_false (by omega))) ?_
  refine WL_val rfl rfl rfl (R_move rfl rfl) ?_
  refine WL_val rfl rfl rfl (R_len rfl Try.underlying41 rfl) ?_
  refine WL_val rfl rfl rfl (R_gtr rfl rfl rfl) ?_
  refine WL_val rfl rfl rfl (R_pickF rfl rfl rfl) ?_
  refine WL_nil ?_
  refine WQ_code ?_
  refine WC_dF rfl (by omega) ?_
  refine WC_skip ?_
  refine WQ_code ?_
  refine WC_seq ?_
  refine WC_region ?_
  refine WL_val rfl rfl rfl (R_move rfl rfl) ?_
  refine WL_do rfl rfl rfl (D_appendIn rfl si26 rfl rfl (fun h9 => rd_in ha mmY h9) (by rw [ivs_len]; omega) (by omega) (by omega)) ?_
  rintro _ _ ⟨o9, c9, tl9, rfl, own9, rfl⟩
  obtain ⟨w9, rfl⟩ := own9.some_of (by omega)
  refine WL_val rfl rfl rfl (R_assign rfl rfl) ?_
  refine WL_nil ?_
  refine WQ_code ?_
  refine WC_seq ?_
  refine WC_region ?_
  refine WL_val rfl rfl rfl (R_move rfl rfl) ?_
  refine WL_val rfl rfl rfl (R_move rfl rfl) ?_
  refine WL_val rfl rfl rfl (R_move rfl rfl) ?_
  refine WL_val rfl rfl rfl (R_move rfl rfl) ?_
  refine WL_do rfl rfl rfl (D_call (bnew_is k hv.1 W _ _ _ (Rd.own (e := 3) own9) limit op hv.2.1 hv.2.2.2 hv.2.2.1) rfl rfl rfl rfl (pqY)) ?_
  rintro _ _ ⟨_, ⟨m0, rfl, rfl, g0⟩, rfl⟩
  refine WL_val rfl rfl rfl (R_move rfl rfl) ?_
  refine WL_val rfl rfl rfl (R_extract rfl rfl rfl) ?_
  refine WL_val rfl rfl rfl (R_extract rfl rfl rfl) ?_
  refine WL_val rfl rfl rfl (R_assign rfl rfl) ?_
  refine WL_val rfl rfl rfl (R_assign rfl rfl) ?_
  refine WL_nil ?_
  refine WQ_code ?_
  refine WC_seq ?_
  refine WC_seq ?_
  refine WC_region ?_
  refine WL_val rfl rfl rfl (R_move rfl rfl) ?_
  refine WL_val rfl rfl rfl (R_move rfl rfl) ?_
  refine WL_val rfl rfl rfl (R_move rfl rfl) ?_
  refine WL_val rfl rfl rfl (R_move rfl rfl) ?_
  refine WL_do rfl rfl rfl (D_call (valid_ok (k : Int) W oa c ent ha limit op (by omega)) rfl rfl rfl rfl (pqY)) ?_
  rintro _ _ ⟨_, ⟨rfl, rfl⟩, rfl⟩
  refine WL_set (s := 43) (v := .bool true) rfl (by exact congrArg Value.bool (decide_eq_true hvk)) ?_
  refine WL_val rfl rfl rfl (R_not rfl rfl) ?_
  refine WL_nil ?_
  refine WQ_code ?_
  refine WC_F rfl ?_
  refine WC_skip ?_
  refine WQ_code ?_
  refine WC_seq ?_
  refine WC_seq ?_
  refine WC_region ?_
  refine WL_val rfl rfl rfl (R_move rfl rfl) ?_
  refine WL_val rfl rfl rfl (R_ptrEqNil rfl Try.underlying31 rfl) ?_
  refine WL_val rfl rfl rfl (R_move rfl rfl) ?_
  refine WL_val rfl rfl rfl (R_move rfl rfl) ?_
  refine WL_val rfl rfl rfl (R_neq rfl rfl rfl) ?_
  refine WL_val rfl rfl rfl (R_pickF rfl rfl rfl) ?_
  refine WL_set (s := 59) (v := .bool false) rfl (by simp) ?_
  refine WL_nil ?_
  refine WQ_code ?_
  refine WC_F rfl ?_
  refine WC_skip ?_
  refine WQ_code ?_
  refine WC_seq ?_
  refine WC_seq ?_
  refine WC_region ?_
  refine WL_val rfl rfl rfl (R_assign rfl rfl) ?_
  refine WL_nil ?_
  refine WQ_code ?_
  refine WC_block ?_
  refine WC_loopF (G := ZW) [14, 60, 61, 62, 63, 64, 65, 66, 67, 68] (fun y => y.j ≤ W.length ∧ y.V.length = W.length) (fun y => [(14, .int .i64 (y.j : Int))]) (fun y => [⟨some w9, cl (ivs y.V ++ tl9) 3⟩]) (fun y => W.length - y.j) (⟨0, W⟩) (⟨Nat.zero_le _, rfl⟩) leZ (pqY) ?_
  rintro y ⟨hyj, hyV⟩
  refine WC_seq ?_
  refine WC_seq ?_
  refine WC_region ?_
  refine WL_val rfl rfl rfl (R_move rfl rfl) ?_
  refine WL_val rfl rfl rfl (R_move rfl rfl) ?_
  refine WL_val rfl rfl rfl (R_len rfl Try.underlying26 rfl) ?_
  refine WL_val rfl rfl rfl (R_lss rfl rfl rfl) ?_
  refine WL_nil ?_
  refine WQ_code ?_
  refine WC_dec rfl (fun c1 => ?_) (fun c1 => ?_)
  · refine WC_skip ?_
    refine WQ_code ?_
    refine WC_seq ?_
    refine WC_block ?_
    refine WC_region ?_
    obtain ⟨v9, hv9⟩ := getE (T := y.V) (i := y.j) (by omega)
    refine WL_val rfl rfl rfl (R_move rfl rfl) ?_
    refine WL_val rfl rfl rfl (R_move rfl rfl) ?_
    refine WL_val rfl rfl rfl (R_indexAddrN rfl Try.underlying26 Try.sizeOf3 rfl rfl (by omega)) ?_
    refine WL_do0 rfl rfl (D_store (vs := [_]) rfl Try.sizeOf3 rfl rfl rfl rfl rfl (plY) (by exact fm_room0 encI1 (show y.j < y.V.length by omega) (j := 0) (by omega))) ?_
    rintro _ _ rfl
    have hput : putAt (ivs y.V ++ tl9) (0 + y.j * 1) [.int .i64 0] = ivs (y.V.set y.j 0) ++ tl9 := fm_put0 encI1 (0 : Int) hv9 (j := 0) (vs := [.int .i64 0]) (by simp) rfl (tl := tl9)
    rw [hput]
    refine WL_nil ?_
    refine WQ_code ?_
    refine WC_region ?_
    refine WL_val rfl rfl rfl (R_move rfl rfl) ?_
    refine WL_val rfl rfl rfl (R_add rfl rfl rfl (by omega)) ?_
    refine WL_val rfl rfl rfl (R_assign rfl rfl) ?_
    refine WL_nil ?_
    refine WQ_nextF (⟨y.j + 1, y.V.set y.j 0⟩) (⟨by dsimp only; omega, by dsimp only; rw [List.length_set]; exact hyV⟩) (by dsimp only; omega) leZ (psZ) rfl (pqY)
  · refine WC_exit ?_
    refine WQ_code ?_
    refine WC_seq ?_
    refine WC_region ?_
    refine WL_val rfl rfl rfl (R_move rfl rfl) ?_
    refine WL_val rfl rfl rfl (R_move rfl rfl) ?_
    refine WL_val rfl rfl rfl (R_move rfl rfl) ?_
    refine WL_val rfl rfl rfl (R_move rfl rfl) ?_
    refine WL_do rfl rfl rfl (D_call (begin_ok k W oa c ent ha limit op hv.2.1 hv.2.2.2) rfl rfl rfl rfl (pqY)) ?_
    rintro _ _ ⟨_, ⟨l0, rfl, rfl, hl0, hr0⟩, rfl⟩
    refine WL_do rfl rfl rfl (D_alloc rfl zv45) ?_
    rintro _ _ ⟨b1, rfl, rfl⟩
    refine WL_do0 rfl rfl (D_store (vs := [_, _, _, _, _, _]) rfl Try.sizeOf45 rfl rfl rfl rfl rfl (plY) (by exact Nat.le_of_ble_eq_true rfl)) ?_
    rintro _ _ rfl
    refine WL_nil ?_
    refine WQ_code ?_
    refine WC_seq ?_
    refine WC_seq ?_
    refine WC_region ?_
    refine WL_val rfl rfl rfl (R_assign rfl rfl) ?_
    refine WL_nil ?_
    refine WQ_code ?_
    refine WC_block ?_
    refine WC_loopF (G := PW) [10, 12, 16, 17, 18, 19, 74, 75, 76, 77, 78, 79, 80, 81, 82, 83, 84, 85, 86, 87, 88, 89, 90, 91, 92, 93, 94, 95, 96, 97, 98, 99, 100, 101, 102, 103, 104, 105, 106, 107, 108, 109, 110, 111, 112] (fun z => z.i ≤ T.length ∧ BIs z.i z.m z.s ∧ LmIs z.i z.l ∧ Rel z.s z.l) (fun z => [(16, .int .i64 (z.i : Int)), (12, ptrB z.m.p)]) (fun z => [⟨some b1, cl (lmC z.l) 45⟩] ++ balH z.m ++ lmH z.l) (fun z => T.length - z.i) (⟨0, m0, bs0 k W limit op, l0⟩) (⟨Nat.zero_le _, g0, hl0, hr0⟩) leZ (pqY) ?_
    rintro z ⟨hzi, hzb, hzl, hzr⟩
    refine WC_seq ?_
    refine WC_seq ?_
    refine WC_region ?_
    refine WL_val rfl rfl rfl (R_move rfl rfl) ?_
    refine WL_val rfl rfl rfl (R_move rfl rfl) ?_
    refine WL_val rfl rfl rfl (R_len rfl Try.underlying41 rfl) ?_
    refine WL_val rfl rfl rfl (R_lss rfl rfl rfl) ?_
    refine WL_nil ?_
    refine WQ_code ?_
    refine WC_dec rfl (fun c2 => ?_) (fun c2 => ?_)
    · refine WC_skip ?_
      refine WQ_code ?_
      refine WC_seq ?_
      refine WC_block ?_
      refine WC_seq ?_
      refine WC_seq ?_
      refine WC_region ?_
      obtain ⟨a9, ha9⟩ := getE (T := T) (i := z.i) (by omega)
      have hn9 := hG a9 (List.mem_of_getElem? ha9)
      obtain ⟨lb, lk, lcs, le, lfr, rfl, rfl, hat⟩ := ha2.some (by omega)
      refine WL_val rfl rfl rfl (R_move rfl rfl) ?_
      refine WL_val rfl rfl rfl (R_move rfl rfl) ?_
      refine WL_val rfl rfl rfl (R_indexAddrN rfl Try.underlying41 Try.sizeOf48 rfl rfl (by omega)) ?_
      refine WL_val rfl rfl rfl (R_fieldAddr rfl fa48_3 rfl) ?_
      refine WL_val rfl rfl rfl (R_loadG (v := .string a9.key) rfl sc9 rfl mmY (hat z.i a9 ha9 3 _ rfl)) ?_
      refine WL_val rfl rfl rfl (R_lenStr rfl Try.underlying9 rfl) ?_
      refine WL_val rfl rfl rfl (R_gtr rfl rfl rfl) ?_
      refine WL_nil ?_
      refine WQ_code ?_
      refine WC_dec rfl (fun c3 => ?_) (fun c3 => ?_)
      · refine WC_seq ?_
        refine WC_region ?_
        refine WL_do rfl rfl rfl (D_call (known_ok) rfl rfl rfl rfl (pqY)) ?_
        rintro _ _ ⟨_, ⟨rfl, rfl⟩, rfl⟩
        refine WL_val rfl rfl rfl (R_assign rfl rfl) ?_
        refine WL_nil ?_
        refine WQ_code ?_
        refine WC_ret ?_
        refine WQ_ret rfl rfl (.cons (.tmp rfl) .nil) rfl (by
            exact ⟨rfl, rfl⟩) (pqY)
      · refine WC_skip ?_
        refine WQ_code ?_
        refine WC_seq ?_
        refine WC_drawBR (balH z.m ++ lmH z.l) [(0, .q), (1, .q), (2, .q), (3, .q), (4, .q), (5, .q), (6, .n [11]), (7, .q), (8, .q), (9, .q), (10, .q), (11, .b []), (12, .q), (13, .n []), (14, .q)] followsMixed rfl rfl (by kernel_rfl) (pqY) ?_
        refine WB_val rfl rfl rfl rfl (R_move rfl rfl) ?_
        refine WB_val rfl rfl rfl rfl (R_loadA (vs := [_, _, _, _, _, _]) rfl ag45 rfl (mmY) rfl (atZ)) ?_
        refine WB_val rfl rfl rfl rfl (R_move rfl rfl) ?_
        refine WB_val rfl rfl rfl rfl (R_move rfl rfl) ?_
        refine WB_val rfl rfl rfl rfl (R_indexAddrN rfl Try.underlying41 Try.sizeOf48 rfl rfl (by omega)) ?_
        refine WB_val rfl rfl rfl rfl (R_loadAG (vs := encP a9) rfl ag48 rfl mmY rfl (hat z.i a9 ha9)) ?_
        refine WB_do rfl rfl rfl rfl (.cons rfl rfl (B_alloc rfl zv45) .nil) (fun _ => D_call (st_any hzb hzl hzr (by omega) a9.wt a9.n a9.now a9.key a9.good hn9) rfl rfl rfl rfl (pqY)) ?_
        rintro _ _ ⟨_, ⟨m2, s2, l2, rfl, rfl, hb2, hl2, hr2⟩, rfl⟩
        refine ⟨⟨_, pqY⟩, ?_⟩
        refine WB_val rfl rfl rfl rfl (R_move rfl rfl) ?_
        refine WB_val rfl rfl rfl rfl (R_extract rfl rfl rfl) ?_
        refine WB_val rfl rfl rfl rfl (R_extract rfl rfl rfl) ?_
        refine WB_val rfl rfl rfl rfl (R_extract rfl rfl rfl) ?_
        refine WB_birth rfl rfl rfl rfl .nil (B_alloc rfl zv45) (fun b2 => ?_)
        refine WB_val rfl rfl rfl rfl (R_assign rfl rfl) ?_
        refine WB_do0 rfl rfl rfl .nil (fun _ => D_store (vs := [_, _, _, _, _, _]) rfl Try.sizeOf45 rfl rfl rfl rfl rfl (plY) (by exact Nat.le_of_ble_eq_true rfl)) ?_
        rintro _ _ rfl
        refine ⟨⟨_, pqY⟩, ?_⟩
        refine WB_val rfl rfl rfl rfl (R_assign rfl rfl) ?_
        refine WB_nil ?_
        refine WQ_code ?_
        refine WC_seq ?_
        refine WC_seq ?_
        refine WC_region ?_
        refine WL_val rfl rfl rfl (R_move rfl rfl) ?_
        refine WL_val rfl rfl rfl (R_ptrEqNil rfl Try.underlying31 rfl) ?_
        refine WL_val rfl rfl rfl (R_move rfl rfl) ?_
        refine WL_val rfl rfl rfl (R_move rfl rfl) ?_
        refine WL_val rfl rfl rfl (R_not rfl rfl) ?_
        refine WL_val rfl rfl rfl (R_pickF rfl rfl rfl) ?_
        refine WL_val rfl rfl rfl (R_move rfl rfl) ?_
        refine WL_val rfl rfl rfl (R_move rfl rfl) ?_
        refine WL_val rfl rfl rfl (R_loadA (vs := [_, _, _, _, _, _]) rfl ag45 rfl (mmY) rfl (atZ)) ?_
        refine WL_do rfl rfl rfl (D_call (alike_ok hb2 hl2 hr2 (by omega)) rfl rfl rfl rfl (pqY)) ?_
        rintro _ _ ⟨_, ⟨rfl, rfl⟩, rfl⟩
        refine WL_val rfl rfl rfl (R_not rfl rfl) ?_
        refine WL_val rfl rfl rfl (R_pickF rfl rfl rfl) ?_
        refine WL_nil ?_
        refine WQ_code ?_
        refine WC_F rfl ?_
        refine WC_skip ?_
        refine WQ_code ?_
        refine WC_drawR [⟨some b1, _⟩] [(0, true), (1, true), (2, true), (3, false)] followsMixed rfl rfl (by kernel_rfl) (pqY) ?_
        refine WM_val rfl rfl rfl rfl (R_move rfl rfl) ?_
        refine WM_val rfl rfl rfl rfl (R_loadA (vs := [_, _, _, _, _, _]) rfl ag45 rfl (mmY) rfl (atZ)) ?_
        refine WM_val rfl rfl rfl rfl (R_assign rfl rfl) ?_
        refine WM_do0 rfl rfl rfl (D_store (vs := [_, _, _, _, _, _]) rfl Try.sizeOf45 rfl rfl rfl rfl rfl (plY) (by exact Nat.le_of_ble_eq_true rfl)) ?_
        rintro _ _ rfl
        refine ⟨⟨_, pqY⟩, ?_⟩
        refine WM_nil ?_
        refine WQ_code ?_
        refine WC_region ?_
        refine WL_val rfl rfl rfl (R_move rfl rfl) ?_
        refine WL_val rfl rfl rfl (R_add rfl rfl rfl (by omega)) ?_
        refine WL_val rfl rfl rfl (R_assign rfl rfl) ?_
        refine WL_nil ?_
        refine WQ_nextF (⟨z.i + 1, m2, s2, l2⟩) (⟨by dsimp only; omega, hb2, hl2, hr2⟩) (by dsimp only; omega) leZ (psZ) rfl (pqY)
    · refine WC_exit ?_
      refine WQ_code ?_
      refine WC_seq ?_
      refine WC_region ?_
      refine WL_do rfl rfl rfl (D_call (known_ok) rfl rfl rfl rfl (pqY)) ?_
      rintro _ _ ⟨_, ⟨rfl, rfl⟩, rfl⟩
      refine WL_val rfl rfl rfl (R_assign rfl rfl) ?_
      refine WL_nil ?_
      refine WQ_code ?_
      refine WC_ret ?_
      refine WQ_ret rfl rfl (.cons (.tmp rfl) .nil) rfl (by
          exact ⟨rfl, rfl⟩) (pqY)
theorem plays_one (k : Nat) (W : List Int) (oa : Option Addr) (c : Nat) (ent : Ent) (ha : Rd oa ent W) (limit : Int) (op : Nat) (T : List PA) (oa2 : Option Addr) (c2 : Nat) (ha2 : Arg oa2 ent 5 encP T) (hG : ∀ a ∈ T, a.now ≤ 18446744073709551615) (h1 : W.length ≤ 70) (h2 : T.length ≤ 40) (hvk : VOk k W limit op) : Spec Try.prog 5 [.int .i64 (k : Int), .slice oa W.length c, .int .i64 limit, .int .u64 (op : Int), .slice oa2 T.length c2] [ent] (fun r H' => r = .bool true ∧ H' = [ent]) := by
  have hv : (1 ≤ k ∧ k ≤ 4) ∧ (1 ≤ W.length ∧ W.length ≤ 64) ∧ (∀ w ∈ W, 1 ≤ w ∧ w ≤ 100) ∧ OkR limit 1 op := ⟨by have := hvk.1; omega, hvk.2⟩
  refine Spec.of (E := [(0, .int .i64 (k : Int)), (1, .slice oa W.length c), (2, .int .i64 limit), (3, .int .u64 (op : Int)), (4, .slice oa2 T.length c2)]) Try.func5 rfl (by kernel_rfl) Try.ntmps5 rfl rfl (fun w => ?_)
  refine WC_seq ?_
  refine WC_region ?_
  refine WL_val rfl rfl rfl (R_assign rfl rfl) ?_
  refine WL_nil ?_
  refine WQ_code ?_
  refine WC_seq ?_
  refine WC_seq ?_
  refine WC_region ?_
  refine WL_val rfl rfl rfl (R_move rfl rfl) ?_
  refine WL_val rfl rfl rfl (R_len rfl Try.underlying26 rfl) ?_
  refine WL_val rfl rfl rfl (R_gtr rfl rfl rfl) ?_
  refine WL_val rfl rfl rfl (R_move rfl rfl) ?_
  refine WL_set (s := 23) (v := .bool false) rfl (by exact congrArg Value.bool (decide_eq_false (by omega))) ?_
  refine WL_val rfl rfl rfl (R_move rfl rfl) ?_
  refine WL_val rfl rfl rfl (R_len rfl Try.underlying41 rfl) ?_
  refine WL_val rfl rfl rfl (R_gtr rfl rfl rfl) ?_
  refine WL_val rfl rfl rfl (R_pickF rfl rfl rfl) ?_
  refine WL_nil ?_
  refine WQ_code ?_
  refine WC_dF rfl (by omega) ?_
  refine WC_skip ?_
  refine WQ_code ?_
  refine WC_seq ?_
  refine WC_region ?_
  refine WL_val rfl rfl rfl (R_move rfl rfl) ?_
  refine WL_do rfl rfl rfl (D_appendIn rfl si26 rfl rfl (fun h9 => rd_in ha mmY h9) (by rw [ivs_len]; omega) (by omega) (by omega)) ?_
  rintro _ _ ⟨o9, c9, tl9, rfl, own9, rfl⟩
  obtain ⟨w9, rfl⟩ := own9.some_of (by omega)
  refine WL_val rfl rfl rfl (R_assign rfl rfl) ?_
  refine WL_nil ?_
  refine WQ_code ?_
  refine WC_seq ?_
  refine WC_region ?_
  refine WL_val rfl rfl rfl (R_move rfl rfl) ?_
  refine WL_val rfl rfl rfl (R_move rfl rfl) ?_
  refine WL_val rfl rfl rfl (R_move rfl rfl) ?_
  refine WL_val rfl rfl rfl (R_move rfl rfl) ?_
  refine WL_do rfl rfl rfl (D_call (bnew_is k hv.1 W _ _ _ (Rd.own (e := 3) own9) limit op hv.2.1 hv.2.2.2 hv.2.2.1) rfl rfl rfl rfl (pqY)) ?_
  rintro _ _ ⟨_, ⟨m0, rfl, rfl, g0⟩, rfl⟩
  refine WL_val rfl rfl rfl (R_move rfl rfl) ?_
  refine WL_val rfl rfl rfl (R_extract rfl rfl rfl) ?_
  refine WL_val rfl rfl rfl (R_extract rfl rfl rfl) ?_
  refine WL_val rfl rfl rfl (R_assign rfl rfl) ?_
  refine WL_val rfl rfl rfl (R_assign rfl rfl) ?_
  refine WL_nil ?_
  refine WQ_code ?_
  refine WC_seq ?_
  refine WC_seq ?_
  refine WC_region ?_
  refine WL_val rfl rfl rfl (R_move rfl rfl) ?_
  refine WL_val rfl rfl rfl (R_move rfl rfl) ?_
  refine WL_val rfl rfl rfl (R_move rfl rfl) ?_
  refine WL_val rfl rfl rfl (R_move rfl rfl) ?_
  refine WL_do rfl rfl rfl (D_call (valid_ok (k : Int) W oa c ent ha limit op (by omega)) rfl rfl rfl rfl (pqY)) ?_
  rintro _ _ ⟨_, ⟨rfl, rfl⟩, rfl⟩
  refine WL_set (s := 43) (v := .bool true) rfl (by exact congrArg Value.bool (decide_eq_true hvk)) ?_
  refine WL_val rfl rfl rfl (R_not rfl rfl) ?_
  refine WL_nil ?_
  refine WQ_code ?_
  refine WC_F rfl ?_
  refine WC_skip ?_
  refine WQ_code ?_
  refine WC_seq ?_
  refine WC_seq ?_
  refine WC_region ?_
  refine WL_val rfl rfl rfl (R_move rfl rfl) ?_
  refine WL_val rfl rfl rfl (R_ptrEqNil rfl Try.underlying31 rfl) ?_
  refine WL_val rfl rfl rfl (R_move rfl rfl) ?_
  refine WL_val rfl rfl rfl (R_move rfl rfl) ?_
  refine WL_val rfl rfl rfl (R_neq rfl rfl rfl) ?_
  refine WL_val rfl rfl rfl (R_pickF rfl rfl rfl) ?_
  refine WL_set (s := 59) (v := .bool false) rfl (by simp) ?_
  refine WL_nil ?_
  refine WQ_code ?_
  refine WC_F rfl ?_
  refine WC_skip ?_
  refine WQ_code ?_
  refine WC_seq ?_
  refine WC_seq ?_
  refine WC_region ?_
  refine WL_val rfl rfl rfl (R_assign rfl rfl) ?_
  refine WL_nil ?_
  refine WQ_code ?_
  refine WC_block ?_
  refine WC_loopF (G := ZW) [14, 60, 61, 62, 63, 64, 65, 66, 67, 68] (fun y => y.j ≤ W.length ∧ y.V.length = W.length) (fun y => [(14, .int .i64 (y.j : Int))]) (fun y => [⟨some w9, cl (ivs y.V ++ tl9) 3⟩]) (fun y => W.length - y.j) (⟨0, W⟩) (⟨Nat.zero_le _, rfl⟩) leZ (pqY) ?_
  rintro y ⟨hyj, hyV⟩
  refine WC_seq ?_
  refine WC_seq ?_
  refine WC_region ?_
  refine WL_val rfl rfl rfl (R_move rfl rfl) ?_
  refine WL_val rfl rfl rfl (R_move rfl rfl) ?_
  refine WL_val rfl rfl rfl (R_len rfl Try.underlying26 rfl) ?_
  refine WL_val rfl rfl rfl (R_lss rfl rfl rfl) ?_
  refine WL_nil ?_
  refine WQ_code ?_
  refine WC_dec rfl (fun c1 => ?_) (fun c1 => ?_)
  · refine WC_skip ?_
    refine WQ_code ?_
    refine WC_seq ?_
    refine WC_block ?_
    refine WC_region ?_
    obtain ⟨v9, hv9⟩ := getE (T := y.V) (i := y.j) (by omega)
    refine WL_val rfl rfl rfl (R_move rfl rfl) ?_
    refine WL_val rfl rfl rfl (R_move rfl rfl) ?_
    refine WL_val rfl rfl rfl (R_indexAddrN rfl Try.underlying26 Try.sizeOf3 rfl rfl (by omega)) ?_
    refine WL_do0 rfl rfl (D_store (vs := [_]) rfl Try.sizeOf3 rfl rfl rfl rfl rfl (plY) (by exact fm_room0 encI1 (show y.j < y.V.length by omega) (j := 0) (by omega))) ?_
    rintro _ _ rfl
    have hput : putAt (ivs y.V ++ tl9) (0 + y.j * 1) [.int .i64 0] = ivs (y.V.set y.j 0) ++ tl9 := fm_put0 encI1 (0 : Int) hv9 (j := 0) (vs := [.int .i64 0]) (by simp) rfl (tl := tl9)
    rw [hput]
    refine WL_nil ?_
    refine WQ_code ?_
    refine WC_region ?_
    refine WL_val rfl rfl rfl (R_move rfl rfl) ?_
    refine WL_val rfl rfl rfl (R_add rfl rfl rfl (by omega)) ?_
    refine WL_val rfl rfl rfl (R_assign rfl rfl) ?_
    refine WL_nil ?_
    refine WQ_nextF (⟨y.j + 1, y.V.set y.j 0⟩) (⟨by dsimp only; omega, by dsimp only; rw [List.length_set]; exact hyV⟩) (by dsimp only; omega) leZ (psZ) rfl (pqY)
  · refine WC_exit ?_
    refine WQ_code ?_
    refine WC_seq ?_
    refine WC_region ?_
    refine WL_val rfl rfl rfl (R_move rfl rfl) ?_
    refine WL_val rfl rfl rfl (R_move rfl rfl) ?_
    refine WL_val rfl rfl rfl (R_move rfl rfl) ?_
    refine WL_val rfl rfl rfl (R_move rfl rfl) ?_
    refine WL_do rfl rfl rfl (D_call (begin_ok k W oa c ent ha limit op hv.2.1 hv.2.2.2) rfl rfl rfl rfl (pqY)) ?_
    rintro _ _ ⟨_, ⟨l0, rfl, rfl, hl0, hr0⟩, rfl⟩
    refine WL_do rfl rfl rfl (D_alloc rfl zv45) ?_
    rintro _ _ ⟨b1, rfl, rfl⟩
    refine WL_do0 rfl rfl (D_store (vs := [_, _, _, _, _, _]) rfl Try.sizeOf45 rfl rfl rfl rfl rfl (plY) (by exact Nat.le_of_ble_eq_true rfl)) ?_
    rintro _ _ rfl
    refine WL_nil ?_
    refine WQ_code ?_
    refine WC_seq ?_
    refine WC_seq ?_
    refine WC_region ?_
    refine WL_val rfl rfl rfl (R_assign rfl rfl) ?_
    refine WL_nil ?_
    refine WQ_code ?_
    refine WC_block ?_
    refine WC_loopF (G := PW) [10, 12, 16, 17, 18, 19, 74, 75, 76, 77, 78, 79, 80, 81, 82, 83, 84, 85, 86, 87, 88, 89, 90, 91, 92, 93, 94, 95, 96, 97, 98, 99, 100, 101, 102, 103, 104, 105, 106, 107, 108, 109, 110, 111, 112] (fun z => z.i ≤ T.length ∧ BIs z.i z.m z.s ∧ LmIs z.i z.l ∧ Rel z.s z.l) (fun z => [(16, .int .i64 (z.i : Int)), (12, ptrB z.m.p)]) (fun z => [⟨some b1, cl (lmC z.l) 45⟩] ++ balH z.m ++ lmH z.l) (fun z => T.length - z.i) (⟨0, m0, bs0 k W limit op, l0⟩) (⟨Nat.zero_le _, g0, hl0, hr0⟩) leZ (pqY) ?_
    rintro z ⟨hzi, hzb, hzl, hzr⟩
    refine WC_seq ?_
    refine WC_seq ?_
    refine WC_region ?_
    refine WL_val rfl rfl rfl (R_move rfl rfl) ?_
    refine WL_val rfl rfl rfl (R_move rfl rfl) ?_
    refine WL_val rfl rfl rfl (R_len rfl Try.underlying41 rfl) ?_
    refine WL_val rfl rfl rfl (R_lss rfl rfl rfl) ?_
    refine WL_nil ?_
    refine WQ_code ?_
    refine WC_dec rfl (fun c2 => ?_) (fun c2 => ?_)
    · refine WC_skip ?_
      refine WQ_code ?_
      refine WC_seq ?_
      refine WC_block ?_
      refine WC_seq ?_
      refine WC_seq ?_
      refine WC_region ?_
      obtain ⟨a9, ha9⟩ := getE (T := T) (i := z.i) (by omega)
      have hn9 := hG a9 (List.mem_of_getElem? ha9)
      obtain ⟨lb, lk, lcs, le, lfr, rfl, rfl, hat⟩ := ha2.some (by omega)
      refine WL_val rfl rfl rfl (R_move rfl rfl) ?_
      refine WL_val rfl rfl rfl (R_move rfl rfl) ?_
      refine WL_val rfl rfl rfl (R_indexAddrN rfl Try.underlying41 Try.sizeOf48 rfl rfl (by omega)) ?_
      refine WL_val rfl rfl rfl (R_fieldAddr rfl fa48_3 rfl) ?_
      refine WL_val rfl rfl rfl (R_loadG (v := .string a9.key) rfl sc9 rfl mmY (hat z.i a9 ha9 3 _ rfl)) ?_
      refine WL_val rfl rfl rfl (R_lenStr rfl Try.underlying9 rfl) ?_
      refine WL_val rfl rfl rfl (R_gtr rfl rfl rfl) ?_
      refine WL_nil ?_
      refine WQ_code ?_
      refine WC_dec rfl (fun c3 => ?_) (fun c3 => ?_)
      · refine WC_seq ?_
        refine WC_region ?_
        refine WL_do rfl rfl rfl (D_call (known_ok) rfl rfl rfl rfl (pqY)) ?_
        rintro _ _ ⟨_, ⟨rfl, rfl⟩, rfl⟩
        refine WL_val rfl rfl rfl (R_assign rfl rfl) ?_
        refine WL_nil ?_
        refine WQ_code ?_
        refine WC_ret ?_
        refine WQ_ret rfl rfl (.cons (.tmp rfl) .nil) rfl (by
            exact ⟨rfl, rfl⟩) (pqY)
      · refine WC_skip ?_
        refine WQ_code ?_
        refine WC_seq ?_
        refine WC_drawBR (balH z.m ++ lmH z.l) [(0, .q), (1, .q), (2, .q), (3, .q), (4, .q), (5, .q), (6, .n [11]), (7, .q), (8, .q), (9, .q), (10, .q), (11, .b []), (12, .q), (13, .n []), (14, .q)] followsMixed rfl rfl (by kernel_rfl) (pqY) ?_
        refine WB_val rfl rfl rfl rfl (R_move rfl rfl) ?_
        refine WB_val rfl rfl rfl rfl (R_loadA (vs := [_, _, _, _, _, _]) rfl ag45 rfl (mmY) rfl (atZ)) ?_
        refine WB_val rfl rfl rfl rfl (R_move rfl rfl) ?_
        refine WB_val rfl rfl rfl rfl (R_move rfl rfl) ?_
        refine WB_val rfl rfl rfl rfl (R_indexAddrN rfl Try.underlying41 Try.sizeOf48 rfl rfl (by omega)) ?_
        refine WB_val rfl rfl rfl rfl (R_loadAG (vs := encP a9) rfl ag48 rfl mmY rfl (hat z.i a9 ha9)) ?_
        refine WB_do rfl rfl rfl rfl (.cons rfl rfl (B_alloc rfl zv45) .nil) (fun _ => D_call (st_any hzb hzl hzr (by omega) a9.wt a9.n a9.now a9.key a9.good hn9) rfl rfl rfl rfl (pqY)) ?_
        rintro _ _ ⟨_, ⟨m2, s2, l2, rfl, rfl, hb2, hl2, hr2⟩, rfl⟩
        refine ⟨⟨_, pqY⟩, ?_⟩
        refine WB_val rfl rfl rfl rfl (R_move rfl rfl) ?_
        refine WB_val rfl rfl rfl rfl (R_extract rfl rfl rfl) ?_
        refine WB_val rfl rfl rfl rfl (R_extract rfl rfl rfl) ?_
        refine WB_val rfl rfl rfl rfl (R_extract rfl rfl rfl) ?_
        refine WB_birth rfl rfl rfl rfl .nil (B_alloc rfl zv45) (fun b2 => ?_)
        refine WB_val rfl rfl rfl rfl (R_assign rfl rfl) ?_
        refine WB_do0 rfl rfl rfl .nil (fun _ => D_store (vs := [_, _, _, _, _, _]) rfl Try.sizeOf45 rfl rfl rfl rfl rfl (plY) (by exact Nat.le_of_ble_eq_true rfl)) ?_
        rintro _ _ rfl
        refine ⟨⟨_, pqY⟩, ?_⟩
        refine WB_val rfl rfl rfl rfl (R_assign rfl rfl) ?_
        refine WB_nil ?_
        refine WQ_code ?_
        refine WC_seq ?_
        refine WC_seq ?_
        refine WC_region ?_
        refine WL_val rfl rfl rfl (R_move rfl rfl) ?_
        refine WL_val rfl rfl rfl (R_ptrEqNil rfl Try.underlying31 rfl) ?_
        refine WL_val rfl rfl rfl (R_move rfl rfl) ?_
        refine WL_val rfl rfl rfl (R_move rfl rfl) ?_
        refine WL_val rfl rfl rfl (R_not rfl rfl) ?_
        refine WL_val rfl rfl rfl (R_pickF rfl rfl rfl) ?_
        refine WL_val rfl rfl rfl (R_move rfl rfl) ?_
        refine WL_val rfl rfl rfl (R_move rfl rfl) ?_
        refine WL_val rfl rfl rfl (R_loadA (vs := [_, _, _, _, _, _]) rfl ag45 rfl (mmY) rfl (atZ)) ?_
        refine WL_do rfl rfl rfl (D_call (alike_ok hb2 hl2 hr2 (by omega)) rfl rfl rfl rfl (pqY)) ?_
        rintro _ _ ⟨_, ⟨rfl, rfl⟩, rfl⟩
        refine WL_val rfl rfl rfl (R_not rfl rfl) ?_
        refine WL_val rfl rfl rfl (R_pickF rfl rfl rfl) ?_
        refine WL_nil ?_
        refine WQ_code ?_
        refine WC_F rfl ?_
        refine WC_skip ?_
        refine WQ_code ?_
        refine WC_drawR [⟨some b1, _⟩] [(0, true), (1, true), (2, true), (3, false)] followsMixed rfl rfl (by kernel_rfl) (pqY) ?_
        refine WM_val rfl rfl rfl rfl (R_move rfl rfl) ?_
        refine WM_val rfl rfl rfl rfl (R_loadA (vs := [_, _, _, _, _, _]) rfl ag45 rfl (mmY) rfl (atZ)) ?_
        refine WM_val rfl rfl rfl rfl (R_assign rfl rfl) ?_
        refine WM_do0 rfl rfl rfl (D_store (vs := [_, _, _, _, _, _]) rfl Try.sizeOf45 rfl rfl rfl rfl rfl (plY) (by exact Nat.le_of_ble_eq_true rfl)) ?_
        rintro _ _ rfl
        refine ⟨⟨_, pqY⟩, ?_⟩
        refine WM_nil ?_
        refine WQ_code ?_
        refine WC_region ?_
        refine WL_val rfl rfl rfl (R_move rfl rfl) ?_
        refine WL_val rfl rfl rfl (R_add rfl rfl rfl (by omega)) ?_
        refine WL_val rfl rfl rfl (R_assign rfl rfl) ?_
        refine WL_nil ?_
        refine WQ_nextF (⟨z.i + 1, m2, s2, l2⟩) (⟨by dsimp only; omega, hb2, hl2, hr2⟩) (by dsimp only; omega) leZ (psZ) rfl (pqY)
    · refine WC_exit ?_
      refine WQ_code ?_
      refine WC_seq ?_
      refine WC_region ?_
      refine WL_do rfl rfl rfl (D_call (known_ok) rfl rfl rfl rfl (pqY)) ?_
      rintro _ _ ⟨_, ⟨rfl, rfl⟩, rfl⟩
      refine WL_val rfl rfl rfl (R_assign rfl rfl) ?_
      refine WL_nil ?_
      refine WQ_code ?_
      refine WC_ret ?_
      refine WQ_ret rfl rfl (.cons (.tmp rfl) .nil) rfl (by
          exact ⟨rfl, rfl⟩) (pqY)

end Go.Proofs.Ytiokpmgbabpikaa
