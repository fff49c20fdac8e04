/-
  Chapter 09 (park), part TaskD: contracts of functions that the laws call, each for the heap it names.
-/
import Derived.Test.YtljmeemgjbcgeaaRows
import Derived.Test.YtljmeemgjbcgeaaZSLQueue
import Derived.Test.YtljmeemgjbcgeaaTab
import Derived.Test.YtljmeemgjbcgeaaTaskDL
set_option linter.unusedVariables false
set_option maxRecDepth 20000
set_option maxHeartbeats 1000000
namespace Go.Proofs.Ytljmeemgjbcgeaa


theorem do_nil (i k : Int) : Spec Try.prog 58 [.pointer none, .int .i64 i, .int .i64 k] [] (fun r H' => r = .int .i64 1 ∧ H' = []) := by
  refine Spec.of (E := [(0, .pointer none), (1, .int .i64 i), (2, .int .i64 k)]) Try.func58 rfl (by kernel_rfl) Try.ntmps58 rfl rfl (fun w => ?_)
  refine WC_seq ?_
  refine WC_region ?_
  refine WL_val rfl rfl rfl (R_assign rfl rfl) ?_
  refine WL_nil ?_
  refine WQ_code ?_
  refine WC_seq ?_
  refine WC_seq ?_
  refine WC_region ?_
  refine WL_val rfl rfl rfl (R_move rfl rfl) ?_
  refine WL_val rfl rfl rfl (R_move rfl rfl) ?_
  refine WL_do rfl rfl rfl (D_call (check_nil i) rfl rfl rfl rfl (pqZ)) ?_
  rintro _ _ ⟨_, ⟨rfl, rfl⟩, rfl⟩
  refine WL_val rfl rfl rfl (R_assign rfl rfl) ?_
  refine WL_nil ?_
  refine WQ_code ?_
  refine WC_seq ?_
  refine WC_region ?_
  refine WL_val rfl rfl rfl (R_move rfl rfl) ?_
  refine WL_val rfl rfl rfl (R_neq rfl rfl rfl) ?_
  refine WL_nil ?_
  refine WQ_code ?_
  refine WC_dT rfl (by simp) ?_
  refine WC_seq ?_
  refine WC_region ?_
  refine WL_val rfl rfl rfl (R_move rfl rfl) ?_
  refine WL_val rfl rfl rfl (R_assign rfl rfl) ?_
  refine WL_nil ?_
  refine WQ_code ?_
  refine WC_ret ?_
  refine WQ_ret rfl rfl (.cons (.tmp rfl) .nil) rfl (by
      exact ⟨rfl, rfl⟩) (pqZ)
theorem do_zero (p : Nat) (i k : Int) : Spec Try.prog 58 [ptrQ p, .int .i64 i, .int .i64 k] [⟨some p, cl [.slice none 0 0, .pointer none] 107⟩] (fun r H' => r = .int .i64 1 ∧ H' = [⟨some p, cl [.slice none 0 0, .pointer none] 107⟩]) := by
  refine Spec.of (E := [(0, ptrQ p), (1, .int .i64 i), (2, .int .i64 k)]) Try.func58 rfl (by kernel_rfl) Try.ntmps58 rfl rfl (fun w => ?_)
  refine WC_seq ?_
  refine WC_region ?_
  refine WL_val rfl rfl rfl (R_assign rfl rfl) ?_
  refine WL_nil ?_
  refine WQ_code ?_
  refine WC_seq ?_
  refine WC_seq ?_
  refine WC_region ?_
  refine WL_val rfl rfl rfl (R_move rfl rfl) ?_
  refine WL_val rfl rfl rfl (R_move rfl rfl) ?_
  refine WL_do rfl rfl rfl (D_call (check_zero p i) rfl rfl rfl rfl (pqZ)) ?_
  rintro _ _ ⟨_, ⟨rfl, rfl⟩, rfl⟩
  refine WL_val rfl rfl rfl (R_assign rfl rfl) ?_
  refine WL_nil ?_
  refine WQ_code ?_
  refine WC_seq ?_
  refine WC_region ?_
  refine WL_val rfl rfl rfl (R_move rfl rfl) ?_
  refine WL_val rfl rfl rfl (R_neq rfl rfl rfl) ?_
  refine WL_nil ?_
  refine WQ_code ?_
  refine WC_dT rfl (by simp) ?_
  refine WC_seq ?_
  refine WC_region ?_
  refine WL_val rfl rfl rfl (R_move rfl rfl) ?_
  refine WL_val rfl rfl rfl (R_assign rfl rfl) ?_
  refine WL_nil ?_
  refine WQ_code ?_
  refine WC_ret ?_
  refine WQ_ret rfl rfl (.cons (.tmp rfl) .nil) rfl (by
      exact ⟨rfl, rfl⟩) (pqZ)
theorem lt_of3 {α : Type} {T : List α} {i : Nat} {x : α} (h : T[i]? = some x) : i < T.length := (List.getElem?_eq_some_iff.1 h).1
theorem do_ok (p pe pq pm : Nat) (S : List (Int × Nat)) (c : Nat) (tl : List Value) (Q : List (Nat × Int)) (n : Nat) (es : Array MapEntry) (mc : Nat) (hk : Tk S Q n) (hM : Mp (.int .u64) ekQ evQ es (nds 0 0 Q)) (hn : n < 1000000) (k fr to : Int) (hof : OfP k fr to) (i : Int) : Spec Try.prog 58 [ptrQ p, .int .i64 i, .int .i64 k] (tH p pe pq pm S c tl Q n es mc)
    (fun r H' => ∃ e S' Q' n' es' mc' tl', r = .int .i64 e ∧ H' = tH p pe pq pm S' c tl' Q' n' es' mc' ∧ Mp (.int .u64) ekQ evQ es' (nds 0 0 Q') ∧ DoQ S Q n fr to i e S' Q' n') := by
  have hlen := hk.len
  have hroom := hk.room
  refine Spec.of (E := [(0, ptrQ p), (1, .int .i64 i), (2, .int .i64 k)]) Try.func58 rfl (by kernel_rfl) Try.ntmps58 rfl rfl (fun w => ?_)
  refine WC_seq ?_
  refine WC_region ?_
  refine WL_val rfl rfl rfl (R_assign rfl rfl) ?_
  refine WL_nil ?_
  refine WQ_code ?_
  refine WC_seq ?_
  refine WC_seq ?_
  refine WC_region ?_
  refine WL_val rfl rfl rfl (R_move rfl rfl) ?_
  refine WL_val rfl rfl rfl (R_move rfl rfl) ?_
  refine WL_do rfl rfl rfl (D_call (check_ok p pe pq S c tl i) rfl rfl rfl rfl (pqZ)) ?_
  rintro _ _ ⟨_, ⟨rfl, rfl⟩, rfl⟩
  refine WL_val rfl rfl rfl (R_assign rfl rfl) ?_
  refine WL_nil ?_
  refine WQ_code ?_
  refine WC_seq ?_
  refine WC_region ?_
  refine WL_val rfl rfl rfl (R_move rfl rfl) ?_
  refine WL_val rfl rfl rfl (R_neq rfl rfl rfl) ?_
  refine WL_nil ?_
  refine WQ_code ?_
  refine WC_dec rfl (fun c1 => ?_) (fun c1 => ?_)
  · have hr : i < 0 ∨ (S.length : Int) ≤ i := by by_cases h9 : i < 0 ∨ (S.length : Int) ≤ i; exact h9; exact absurd (if_neg h9) c1
    refine WC_seq ?_
    refine WC_region ?_
    refine WL_val rfl rfl rfl (R_move rfl rfl) ?_
    refine WL_val rfl rfl rfl (R_assign rfl rfl) ?_
    refine WL_nil ?_
    refine WQ_code ?_
    refine WC_ret ?_
    refine WQ_ret rfl rfl (.cons (.tmp rfl) .nil) rfl (by
        exact ⟨_, S, Q, n, es, mc, tl, rfl, rfl, hM, by omega, rfl, hk, .inl ⟨hr, if_pos hr, rfl, rfl⟩⟩) (pqZ)
  · have hr : ¬ (i < 0 ∨ (S.length : Int) ≤ i) := fun h9 => c1 (by rw [if_pos h9]; decide)
    obtain ⟨i, rfl⟩ := Int.eq_ofNat_of_zero_le (show 0 ≤ i by omega)
    obtain ⟨⟨x, t⟩, hi⟩ := exE (T := S) (i := i) (by omega)
    refine WC_skip ?_
    refine WQ_code ?_
    refine WC_seq ?_
    refine WC_drawBR [] [(0, .q), (1, .q), (2, .q), (3, .q), (4, .q), (5, .q), (6, .q), (7, .n [8]), (8, .b []), (9, .q), (10, .n [])] followsMixed rfl rfl (by kernel_rfl) (pqZ) ?_
    refine WB_val rfl rfl rfl rfl (R_move rfl rfl) ?_
    refine WB_val rfl rfl rfl rfl (R_nilCheck rfl rfl) ?_
    refine WB_val rfl rfl rfl rfl (R_fieldAddr rfl fa107_0 rfl) ?_
    refine WB_val rfl rfl rfl rfl (R_load rfl sc105 rfl (mmZ) rfl) ?_
    refine WB_val rfl rfl rfl rfl (R_move rfl rfl) ?_
    refine WB_val rfl rfl rfl rfl (R_indexAddrN rfl Try.underlying105 Try.sizeOf120 rfl rfl (by omega)) ?_
    refine WB_val rfl rfl rfl rfl (R_move rfl rfl) ?_
    refine WB_do rfl rfl rfl rfl (.cons rfl rfl (B_alloc rfl zv126) .nil) (fun _ => D_call (of_ok hof) rfl rfl rfl rfl (pqZ)) ?_
    rintro _ _ ⟨_, ⟨rfl, rfl⟩, rfl⟩
    refine ⟨⟨_, pqZ⟩, ?_⟩
    refine WB_birth rfl rfl rfl rfl .nil (B_alloc rfl zv126) (fun b1 => ?_)
    refine WB_val rfl rfl rfl rfl (R_assign rfl rfl) ?_
    refine WB_do0 rfl rfl rfl .nil (fun _ => D_store (vs := [_, _]) rfl Try.sizeOf126 rfl rfl rfl rfl rfl (plZ) (by exact Nat.le_of_ble_eq_true rfl)) ?_
    rintro _ _ rfl
    refine ⟨⟨_, pqZ⟩, ?_⟩
    refine WB_nil ?_
    refine WQ_code ?_
    refine WC_seq ?_
    refine WC_seq ?_
    refine WC_draw _ [(0, true), (1, true), (2, true), (3, true), (4, true), (5, true), (6, true), (7, true), (8, true)] followsMixed rfl rfl (by kernel_rfl) .all ?_
    refine WM_val rfl rfl rfl rfl (R_move rfl rfl) ?_
    refine WM_val rfl rfl rfl rfl (R_nilCheck rfl rfl) ?_
    refine WM_val rfl rfl rfl rfl (R_fieldAddr rfl fa120_0 rfl) ?_
    refine WM_val rfl rfl rfl rfl (R_load rfl sc49 rfl (mmZ) (fm_get0 encE2 hi (j := 0) (by omega))) ?_
    refine WM_val rfl rfl rfl rfl (R_fieldAddr rfl fa126_1 rfl) ?_
    refine WM_val rfl rfl rfl rfl (R_load rfl sc49 rfl (mmZ) rfl) ?_
    refine WM_val rfl rfl rfl rfl (R_build rfl zv126 pl126 rfl rfl) ?_
    refine WM_val rfl rfl rfl rfl (R_loadA (vs := [_, _]) rfl ag126 rfl (mmZ) rfl (atZ)) ?_
    refine WM_val rfl rfl rfl rfl (R_sne126 rfl rfl rfl rfl) ?_
    refine WM_nil ?_
    refine WQ_code ?_
    refine WC_dec rfl (fun c2 => ?_) (fun c2 => ?_)
    · have hxf : x ≠ fr := fun e9 => c2 ⟨e9, rfl⟩
      refine WC_seq ?_
      refine WC_region ?_
      refine WL_val rfl rfl rfl (R_assign rfl rfl) ?_
      refine WL_nil ?_
      refine WQ_code ?_
      refine WC_ret ?_
      refine WQ_ret rfl rfl (.cons (.tmp rfl) .nil) rfl (by
          exact ⟨_, S, Q, n, es, mc, tl, rfl, rfl, hM, by omega, rfl, hk, .inr ⟨i, x, t, rfl, hi, .inl ⟨hxf, rfl, rfl, rfl⟩⟩⟩) (pqZ)
    · have hxf : x = fr := (Decidable.not_not.1 c2).1
      refine WC_skip ?_
      refine WQ_code ?_
      refine WC_seq ?_
      refine WC_seq ?_
      refine WC_region ?_
      refine WL_val rfl rfl rfl (R_move rfl rfl) ?_
      refine WL_val rfl rfl rfl (R_nilCheck rfl rfl) ?_
      refine WL_val rfl rfl rfl (R_fieldAddr rfl fa120_0 rfl) ?_
      refine WL_val rfl rfl rfl (R_load rfl sc49 rfl (mmZ) (fm_get0 encE2 hi (j := 0) (by omega))) ?_
      refine WL_val rfl rfl rfl (R_eql rfl rfl rfl) ?_
      refine WL_nil ?_
      refine WQ_code ?_
      refine WC_dec rfl (fun c3 => ?_) (fun c3 => ?_)
      · have hx1 : x = 1 := c3
        obtain ⟨A, B, rfl⟩ := List.append_of_mem (hk.ready i t (by rw [hi, hx1]))
        refine WC_drawR [⟨some pq, _⟩, ⟨some pm, _⟩] [(0, true), (1, true), (2, true), (3, true), (4, true), (5, true), (6, true), (7, true), (8, false)] followsMixed rfl rfl (by kernel_rfl) (pqZ) ?_
        refine WM_val rfl rfl rfl rfl (R_move rfl rfl) ?_
        refine WM_val rfl rfl rfl rfl (R_nilCheck rfl rfl) ?_
        refine WM_val rfl rfl rfl rfl (R_fieldAddr rfl fa107_1 rfl) ?_
        refine WM_val rfl rfl rfl rfl (R_load rfl sc76 rfl (mmZ) rfl) ?_
        refine WM_val rfl rfl rfl rfl (R_move rfl rfl) ?_
        refine WM_val rfl rfl rfl rfl (R_nilCheck rfl rfl) ?_
        refine WM_val rfl rfl rfl rfl (R_fieldAddr rfl fa120_1 rfl) ?_
        refine WM_val rfl rfl rfl rfl (R_load rfl sc22 rfl (mmZ) (fm_get0 encE2 hi (j := 1) (by omega))) ?_
        refine WM_do rfl rfl rfl rfl (D_call (qrem_ok pq pm A B t (i : Int) n es mc hk.qk hM) rfl rfl rfl rfl (pqZ)) ?_
        rintro _ _ ⟨_, ⟨es1, mc1, rfl, rfl, hM1⟩, rfl⟩
        refine ⟨⟨_, pqZ⟩, ?_⟩
        refine WM_nil ?_
        refine WQ_code ?_
        refine WC_seq ?_
        refine WC_region ?_
        refine WL_val rfl rfl rfl (R_move rfl rfl) ?_
        refine WL_val rfl rfl rfl (R_fieldAddr rfl fa126_1 rfl) ?_
        refine WL_val rfl rfl rfl (R_load rfl sc49 rfl (mmZ) rfl) ?_
        refine WL_val rfl rfl rfl (R_build rfl zv120 pl120 rfl rfl) ?_
        refine WL_val rfl rfl rfl (R_nilCheck rfl rfl) ?_
        refine WL_do0 rfl rfl (D_store (vs := [_, _]) rfl Try.sizeOf120 rfl rfl rfl rfl rfl (plZ) (by exact fm_room0 encE2 (lt_of3 hi) (j := 0) (by omega))) ?_
        rintro _ _ rfl
        have hput := fm_put0 encE2 (to, 0) hi (j := 0) (vs := [.int .i64 to, .int .u64 0]) (by simp) rfl (tl := tl)
        rw [Nat.add_zero] at hput
        rw [hput, show S.length = (S.set i (to, 0)).length from List.length_set.symm]
        refine WL_nil ?_
        refine WQ_code ?_
        refine WC_seq ?_
        refine WC_seq ?_
        refine WC_region ?_
        refine WL_val rfl rfl rfl (R_fieldAddr rfl fa126_1 rfl) ?_
        refine WL_val rfl rfl rfl (R_load rfl sc49 rfl (mmZ) rfl) ?_
        refine WL_val rfl rfl rfl (R_eql rfl rfl rfl) ?_
        refine WL_nil ?_
        refine WQ_code ?_
        refine WC_dec rfl (fun c4 => ?_) (fun c4 => ?_)
        · have hto : to = 1 := c4
          have hk2 := tk_enter (i := i) (x := 0) (t := 0) (tk_leave hk (.inl rfl) 0) (by simp [lt_of3 hi]) (by decide)
          rw [List.set_set] at hk2
          refine WC_region ?_
          refine WL_val rfl rfl rfl (R_move rfl rfl) ?_
          refine WL_val rfl rfl rfl (R_move rfl rfl) ?_
          refine WL_val rfl rfl rfl (R_nilCheck rfl rfl) ?_
          refine WL_val rfl rfl rfl (R_fieldAddr rfl fa107_1 rfl) ?_
          refine WL_val rfl rfl rfl (R_load rfl sc76 rfl (mmZ) rfl) ?_
          refine WL_val rfl rfl rfl (R_move rfl rfl) ?_
          refine WL_do rfl rfl rfl (D_call (qpush_ok pq pm (A ++ B) n es1 mc1 hk.qk.rem hM1 (by simp at hroom ⊢; omega) (by omega) (i : Int)) rfl rfl rfl rfl (pqZ)) ?_
          rintro _ _ ⟨_, ⟨es2, mc2, rfl, rfl, hM2⟩, rfl⟩
          refine WL_val rfl rfl rfl (R_move rfl rfl) ?_
          refine WL_val rfl rfl rfl (R_extract rfl rfl rfl) ?_
          refine WL_val rfl rfl rfl (R_extract rfl rfl rfl) ?_
          refine WL_val rfl rfl rfl (R_nilCheck rfl rfl) ?_
          refine WL_val rfl rfl rfl (R_fieldAddr rfl fa120_1 rfl) ?_
          refine WL_do0 rfl rfl (D_store (vs := [_]) rfl Try.sizeOf22 rfl rfl rfl rfl rfl (plZ) (by exact fm_room0 encE2 (by rw [List.length_set]; exact lt_of3 hi) (j := 1) (by omega))) ?_
          rintro _ _ rfl
          have hput2 := fm_put0 encE2 (to, n + 1) (show (S.set i (to, 0))[i]? = some (to, 0) by simp [lt_of3 hi]) (j := 1) (vs := [.int .u64 ((n + 1 : Nat) : Int)]) (by simp) rfl (tl := tl)
          rw [List.set_set] at hput2
          rw [hput2, hto, show (S.set i (1, 0)).length = (S.set i (1, n + 1)).length from by rw [List.length_set, List.length_set]]
          refine WL_nil ?_
          refine WQ_code ?_
          refine WC_seq ?_
          refine WC_region ?_
          refine WL_val rfl rfl rfl (R_assign rfl rfl) ?_
          refine WL_nil ?_
          refine WQ_code ?_
          refine WC_ret ?_
          refine WQ_ret rfl rfl (.cons (.tmp rfl) .nil) rfl (by
              exact ⟨_, S.set i (1, n + 1), (A ++ B) ++ [(n + 1, (i : Int))], n + 1, es2, mc2, tl, rfl, rfl, hM2, Nat.le_refl _, List.length_set, hk2, .inr ⟨i, x, t, rfl, hi, .inr ⟨hxf, rfl, by rw [List.map_set], by rw [List.map_append, vals_rem hk, if_pos rfl]; rfl⟩⟩⟩) (pqZ)
        · have hto : to ≠ 1 := c4
          have hk2 := tk_leave (to := to) hk (by rcases hof with h | h | h | h | h <;> omega) 0
          refine WC_skip ?_
          refine WQ_code ?_
          refine WC_seq ?_
          refine WC_region ?_
          refine WL_val rfl rfl rfl (R_assign rfl rfl) ?_
          refine WL_nil ?_
          refine WQ_code ?_
          refine WC_ret ?_
          refine WQ_ret rfl rfl (.cons (.tmp rfl) .nil) rfl (by
              exact ⟨_, S.set i (to, 0), A ++ B, n, es1, mc1, tl, rfl, rfl, hM1, by omega, List.length_set, hk2, .inr ⟨i, x, t, rfl, hi, .inr ⟨hxf, rfl, by rw [List.map_set], by rw [vals_rem hk, if_neg hto, List.append_nil]⟩⟩⟩) (pqZ)
      · have hx1 : x ≠ 1 := c3
        refine WC_skip ?_
        refine WQ_code ?_
        refine WC_seq ?_
        refine WC_region ?_
        refine WL_val rfl rfl rfl (R_move rfl rfl) ?_
        refine WL_val rfl rfl rfl (R_fieldAddr rfl fa126_1 rfl) ?_
        refine WL_val rfl rfl rfl (R_load rfl sc49 rfl (mmZ) rfl) ?_
        refine WL_val rfl rfl rfl (R_build rfl zv120 pl120 rfl rfl) ?_
        refine WL_val rfl rfl rfl (R_nilCheck rfl rfl) ?_
        refine WL_do0 rfl rfl (D_store (vs := [_, _]) rfl Try.sizeOf120 rfl rfl rfl rfl rfl (plZ) (by exact fm_room0 encE2 (lt_of3 hi) (j := 0) (by omega))) ?_
        rintro _ _ rfl
        have hput := fm_put0 encE2 (to, 0) hi (j := 0) (vs := [.int .i64 to, .int .u64 0]) (by simp) rfl (tl := tl)
        rw [Nat.add_zero] at hput
        rw [hput, show S.length = (S.set i (to, 0)).length from List.length_set.symm]
        refine WL_nil ?_
        refine WQ_code ?_
        refine WC_seq ?_
        refine WC_seq ?_
        refine WC_region ?_
        refine WL_val rfl rfl rfl (R_fieldAddr rfl fa126_1 rfl) ?_
        refine WL_val rfl rfl rfl (R_load rfl sc49 rfl (mmZ) rfl) ?_
        refine WL_val rfl rfl rfl (R_eql rfl rfl rfl) ?_
        refine WL_nil ?_
        refine WQ_code ?_
        refine WC_dec rfl (fun c5 => ?_) (fun c5 => ?_)
        · have hto : to = 1 := c5
          have hk2 := tk_enter hk hi hx1
          refine WC_region ?_
          refine WL_val rfl rfl rfl (R_move rfl rfl) ?_
          refine WL_val rfl rfl rfl (R_move rfl rfl) ?_
          refine WL_val rfl rfl rfl (R_nilCheck rfl rfl) ?_
          refine WL_val rfl rfl rfl (R_fieldAddr rfl fa107_1 rfl) ?_
          refine WL_val rfl rfl rfl (R_load rfl sc76 rfl (mmZ) rfl) ?_
          refine WL_val rfl rfl rfl (R_move rfl rfl) ?_
          refine WL_do rfl rfl rfl (D_call (qpush_ok pq pm Q n es mc hk.qk hM (by omega) (by omega) (i : Int)) rfl rfl rfl rfl (pqZ)) ?_
          rintro _ _ ⟨_, ⟨es2, mc2, rfl, rfl, hM2⟩, rfl⟩
          refine WL_val rfl rfl rfl (R_move rfl rfl) ?_
          refine WL_val rfl rfl rfl (R_extract rfl rfl rfl) ?_
          refine WL_val rfl rfl rfl (R_extract rfl rfl rfl) ?_
          refine WL_val rfl rfl rfl (R_nilCheck rfl rfl) ?_
          refine WL_val rfl rfl rfl (R_fieldAddr rfl fa120_1 rfl) ?_
          refine WL_do0 rfl rfl (D_store (vs := [_]) rfl Try.sizeOf22 rfl rfl rfl rfl rfl (plZ) (by exact fm_room0 encE2 (by rw [List.length_set]; exact lt_of3 hi) (j := 1) (by omega))) ?_
          rintro _ _ rfl
          have hput2 := fm_put0 encE2 (to, n + 1) (show (S.set i (to, 0))[i]? = some (to, 0) by simp [lt_of3 hi]) (j := 1) (vs := [.int .u64 ((n + 1 : Nat) : Int)]) (by simp) rfl (tl := tl)
          rw [List.set_set] at hput2
          rw [hput2, hto, show (S.set i (1, 0)).length = (S.set i (1, n + 1)).length from by rw [List.length_set, List.length_set]]
          refine WL_nil ?_
          refine WQ_code ?_
          refine WC_seq ?_
          refine WC_region ?_
          refine WL_val rfl rfl rfl (R_assign rfl rfl) ?_
          refine WL_nil ?_
          refine WQ_code ?_
          refine WC_ret ?_
          refine WQ_ret rfl rfl (.cons (.tmp rfl) .nil) rfl (by
              exact ⟨_, S.set i (1, n + 1), Q ++ [(n + 1, (i : Int))], n + 1, es2, mc2, tl, rfl, rfl, hM2, Nat.le_refl _, List.length_set, hk2, .inr ⟨i, x, t, rfl, hi, .inr ⟨hxf, rfl, by rw [List.map_set], by rw [List.map_append, vals_same hk hi hx1, if_pos rfl]; rfl⟩⟩⟩) (pqZ)
        · exfalso; have hto : to ≠ 1 := c5; rcases hof with h | h | h | h | h <;> omega

end Go.Proofs.Ytljmeemgjbcgeaa
