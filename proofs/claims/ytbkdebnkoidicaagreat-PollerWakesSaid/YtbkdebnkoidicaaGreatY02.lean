/-
  Chapter 11 (poller), part Heap: contracts of functions that the laws call, each for the heap it names.
-/
import Derived.Test.YtbkdebnkoidicaaGreatY01
import Derived.Test.YtbkdebnkoidicaaGreatRows
import Derived.Laws.StructEq
section
set_option linter.unusedVariables false
set_option maxRecDepth 20000
set_option maxHeartbeats 1000000
namespace Go.Proofs.YtbkdebnkoidicaaGreat
theorem lt_of3 {α : Type} {T : List α} {i : Nat} {x : α} (h : T[i]? = some x) : i < T.length := (List.getElem?_eq_some_iff.1 h).1
theorem do_ok (p pe pq pm : Nat) (S : List (Int × Nat)) (c : Nat) (tl : List Value) (Q : List (Nat × Int)) (n : Nat) (es : Array MapEntry) (mc : Nat) (hk : Tk S Q n) (hM : Mp (.int .u64) ekQ evQ es (nds 0 0 Q)) (hn : n < 1000000) (k fr to : Int) (hof : OfP k fr to) (i : Int) : Spec Tryz.prog 147 [ptrQ p, .int .i64 i, .int .i64 k] (tH p pe pq pm S c tl Q n es mc)
    (fun r H' => ∃ e S' Q' n' es' mc' tl', r = .int .i64 e ∧ H' = tH p pe pq pm S' c tl' Q' n' es' mc' ∧ Mp (.int .u64) ekQ evQ es' (nds 0 0 Q') ∧ DoQ S Q n fr to i e S' Q' n') := by
  have hlen := hk.len
  have hroom := hk.room
  refine Spec.of (E := [(0, ptrQ p), (1, .int .i64 i), (2, .int .i64 k)]) Tryz.func147 rfl (by kernel_rfl) Tryz.ntmps147 rfl rfl (fun w => ?_)
  refine WC_seq ?_
  refine WC_region ?_
  refine WL_val rfl rfl rfl (R_assign rfl rfl) ?_
  refine WL_nil ?_
  refine WQ_code ?_
  refine WC_seq ?_
  refine WC_seq ?_
  refine WC_region ?_
  refine WL_val rfl rfl rfl (R_move rfl rfl) ?_
  refine WL_val rfl rfl rfl (R_move rfl rfl) ?_
  refine WL_do rfl rfl rfl (D_call (check_ok p pe pq S c tl i) rfl rfl rfl rfl (pqZ)) ?_
  rintro _ _ ⟨_, ⟨rfl, rfl⟩, rfl⟩
  refine WL_val rfl rfl rfl (R_assign rfl rfl) ?_
  refine WL_nil ?_
  refine WQ_code ?_
  refine WC_seq ?_
  refine WC_region ?_
  refine WL_val rfl rfl rfl (R_move rfl rfl) ?_
  refine WL_val rfl rfl rfl (R_neq rfl rfl rfl) ?_
  refine WL_nil ?_
  refine WQ_code ?_
  refine WC_dec rfl (fun c1 => ?_) (fun c1 => ?_)
  · have hr : i < 0 ∨ (S.length : Int) ≤ i := by by_cases h9 : i < 0 ∨ (S.length : Int) ≤ i; exact h9; exact absurd (if_neg h9) c1
    refine WC_seq ?_
    refine WC_region ?_
    refine WL_val rfl rfl rfl (R_move rfl rfl) ?_
    refine WL_val rfl rfl rfl (R_assign rfl rfl) ?_
    refine WL_nil ?_
    refine WQ_code ?_
    refine WC_ret ?_
    refine WQ_ret rfl rfl (.cons (.tmp rfl) .nil) rfl (by
        exact ⟨_, S, Q, n, es, mc, tl, rfl, rfl, hM, by omega, rfl, hk, .inl ⟨hr, if_pos hr, rfl, rfl⟩⟩) (pqZ)
  · have hr : ¬ (i < 0 ∨ (S.length : Int) ≤ i) := fun h9 => c1 (by rw [if_pos h9]; decide)
    obtain ⟨i, rfl⟩ := Int.eq_ofNat_of_zero_le (show 0 ≤ i by omega)
    obtain ⟨⟨x, t⟩, hi⟩ := exE (T := S) (i := i) (by omega)
    refine WC_skip ?_
    refine WQ_code ?_
    refine WC_seq ?_
    refine WC_drawBR [] [(0, .q), (1, .q), (2, .q), (3, .q), (4, .q), (5, .q), (6, .q), (7, .n [8]), (8, .b []), (9, .q), (10, .n [])] followsMixed rfl rfl (by kernel_rfl) (pqZ) ?_
    refine WB_val rfl rfl rfl rfl (R_move rfl rfl) ?_
    refine WB_val rfl rfl rfl rfl (R_nilCheck rfl rfl) ?_
    refine WB_val rfl rfl rfl rfl (R_fieldAddr rfl fa239_0 rfl) ?_
    refine WB_val rfl rfl rfl rfl (R_load rfl sc237 rfl (mmZ) rfl) ?_
    refine WB_val rfl rfl rfl rfl (R_move rfl rfl) ?_
    refine WB_val rfl rfl rfl rfl (R_indexAddrN rfl Tryz.underlying237 Tryz.sizeOf269 rfl rfl (by omega)) ?_
    refine WB_val rfl rfl rfl rfl (R_move rfl rfl) ?_
    refine WB_do rfl rfl rfl rfl (.cons rfl rfl (B_alloc rfl zv296) .nil) (fun _ => D_call (of_ok hof) rfl rfl rfl rfl (pqZ)) ?_
    rintro _ _ ⟨_, ⟨rfl, rfl⟩, rfl⟩
    refine ⟨⟨_, pqZ⟩, ?_⟩
    refine WB_birth rfl rfl rfl rfl .nil (B_alloc rfl zv296) (fun b1 => ?_)
    refine WB_val rfl rfl rfl rfl (R_assign rfl rfl) ?_
    refine WB_do0 rfl rfl rfl .nil (fun _ => D_store (vs := [_, _]) rfl Tryz.sizeOf296 rfl rfl rfl rfl rfl (plZ) (by exact Nat.le_of_ble_eq_true rfl)) ?_
    rintro _ _ rfl
    refine ⟨⟨_, pqZ⟩, ?_⟩
    refine WB_nil ?_
    refine WQ_code ?_
    refine WC_seq ?_
    refine WC_seq ?_
    refine WC_draw _ [(0, true), (1, true), (2, true), (3, true), (4, true), (5, true), (6, true), (7, true), (8, true)] followsMixed rfl rfl (by kernel_rfl) .all ?_
    refine WM_val rfl rfl rfl rfl (R_move rfl rfl) ?_
    refine WM_val rfl rfl rfl rfl (R_nilCheck rfl rfl) ?_
    refine WM_val rfl rfl rfl rfl (R_fieldAddr rfl fa269_0 rfl) ?_
    refine WM_val rfl rfl rfl rfl (R_load rfl sc64 rfl (mmZ) (fm_get0 encE2 hi (j := 0) (by omega))) ?_
    refine WM_val rfl rfl rfl rfl (R_fieldAddr rfl fa296_1 rfl) ?_
    refine WM_val rfl rfl rfl rfl (R_load rfl sc64 rfl (mmZ) rfl) ?_
    refine WM_val rfl rfl rfl rfl (R_build rfl zv296 pl296 rfl rfl) ?_
    refine WM_val rfl rfl rfl rfl (R_loadA (vs := [_, _]) rfl ag296 rfl (mmZ) rfl (atZ)) ?_
    refine WM_val rfl rfl rfl rfl (R_sne296 rfl rfl rfl rfl) ?_
    refine WM_nil ?_
    refine WQ_code ?_
    refine WC_dec rfl (fun c2 => ?_) (fun c2 => ?_)
    · have hxf : x ≠ fr := fun e9 => c2 ⟨e9, rfl⟩
      refine WC_seq ?_
      refine WC_region ?_
      refine WL_val rfl rfl rfl (R_assign rfl rfl) ?_
      refine WL_nil ?_
      refine WQ_code ?_
      refine WC_ret ?_
      refine WQ_ret rfl rfl (.cons (.tmp rfl) .nil) rfl (by
          exact ⟨_, S, Q, n, es, mc, tl, rfl, rfl, hM, by omega, rfl, hk, .inr ⟨i, x, t, rfl, hi, .inl ⟨hxf, rfl, rfl, rfl⟩⟩⟩) (pqZ)
    · have hxf : x = fr := (Decidable.not_not.1 c2).1
      refine WC_skip ?_
      refine WQ_code ?_
      refine WC_seq ?_
      refine WC_seq ?_
      refine WC_region ?_
      refine WL_val rfl rfl rfl (R_move rfl rfl) ?_
      refine WL_val rfl rfl rfl (R_nilCheck rfl rfl) ?_
      refine WL_val rfl rfl rfl (R_fieldAddr rfl fa269_0 rfl) ?_
      refine WL_val rfl rfl rfl (R_load rfl sc64 rfl (mmZ) (fm_get0 encE2 hi (j := 0) (by omega))) ?_
      refine WL_val rfl rfl rfl (R_eql rfl rfl rfl) ?_
      refine WL_nil ?_
      refine WQ_code ?_
      refine WC_dec rfl (fun c3 => ?_) (fun c3 => ?_)
      · have hx1 : x = 1 := c3
        obtain ⟨A, B, rfl⟩ := List.append_of_mem (hk.ready i t (by rw [hi, hx1]))
        refine WC_drawR [⟨some pq, _⟩, ⟨some pm, _⟩] [(0, true), (1, true), (2, true), (3, true), (4, true), (5, true), (6, true), (7, true), (8, false)] followsMixed rfl rfl (by kernel_rfl) (pqZ) ?_
        refine WM_val rfl rfl rfl rfl (R_move rfl rfl) ?_
        refine WM_val rfl rfl rfl rfl (R_nilCheck rfl rfl) ?_
        refine WM_val rfl rfl rfl rfl (R_fieldAddr rfl fa239_1 rfl) ?_
        refine WM_val rfl rfl rfl rfl (R_load rfl sc177 rfl (mmZ) rfl) ?_
        refine WM_val rfl rfl rfl rfl (R_move rfl rfl) ?_
        refine WM_val rfl rfl rfl rfl (R_nilCheck rfl rfl) ?_
        refine WM_val rfl rfl rfl rfl (R_fieldAddr rfl fa269_1 rfl) ?_
        refine WM_val rfl rfl rfl rfl (R_load rfl sc27 rfl (mmZ) (fm_get0 encE2 hi (j := 1) (by omega))) ?_
        refine WM_do rfl rfl rfl rfl (D_call (qrem_ok pq pm A B t (i : Int) n es mc hk.qk hM) rfl rfl rfl rfl (pqZ)) ?_
        rintro _ _ ⟨_, ⟨es1, mc1, rfl, rfl, hM1⟩, rfl⟩
        refine ⟨⟨_, pqZ⟩, ?_⟩
        refine WM_nil ?_
        refine WQ_code ?_
        refine WC_seq ?_
        refine WC_region ?_
        refine WL_val rfl rfl rfl (R_move rfl rfl) ?_
        refine WL_val rfl rfl rfl (R_fieldAddr rfl fa296_1 rfl) ?_
        refine WL_val rfl rfl rfl (R_load rfl sc64 rfl (mmZ) rfl) ?_
        refine WL_val rfl rfl rfl (R_build rfl zv269 pl269 rfl rfl) ?_
        refine WL_val rfl rfl rfl (R_nilCheck rfl rfl) ?_
        refine WL_do0 rfl rfl (D_store (vs := [_, _]) rfl Tryz.sizeOf269 rfl rfl rfl rfl rfl (plZ) (by exact fm_room0 encE2 (lt_of3 hi) (j := 0) (by omega))) ?_
        rintro _ _ rfl
        have hput := fm_put0 encE2 (to, 0) hi (j := 0) (vs := [.int .i64 to, .int .u64 0]) (by simp) rfl (tl := tl)
        rw [Nat.add_zero] at hput
        rw [hput, show S.length = (S.set i (to, 0)).length from List.length_set.symm]
        refine WL_nil ?_
        refine WQ_code ?_
        refine WC_seq ?_
        refine WC_seq ?_
        refine WC_region ?_
        refine WL_val rfl rfl rfl (R_fieldAddr rfl fa296_1 rfl) ?_
        refine WL_val rfl rfl rfl (R_load rfl sc64 rfl (mmZ) rfl) ?_
        refine WL_val rfl rfl rfl (R_eql rfl rfl rfl) ?_
        refine WL_nil ?_
        refine WQ_code ?_
        refine WC_dec rfl (fun c4 => ?_) (fun c4 => ?_)
        · have hto : to = 1 := c4
          have hk2 := tk_enter (i := i) (x := 0) (t := 0) (tk_leave hk (.inl rfl) 0) (by simp [lt_of3 hi]) (by decide)
          rw [List.set_set] at hk2
          refine WC_region ?_
          refine WL_val rfl rfl rfl (R_move rfl rfl) ?_
          refine WL_val rfl rfl rfl (R_move rfl rfl) ?_
          refine WL_val rfl rfl rfl (R_nilCheck rfl rfl) ?_
          refine WL_val rfl rfl rfl (R_fieldAddr rfl fa239_1 rfl) ?_
          refine WL_val rfl rfl rfl (R_load rfl sc177 rfl (mmZ) rfl) ?_
          refine WL_val rfl rfl rfl (R_move rfl rfl) ?_
          refine WL_do rfl rfl rfl (D_call (qpush_ok pq pm (A ++ B) n es1 mc1 hk.qk.rem hM1 (by simp at hroom ⊢; omega) (by omega) (i : Int)) rfl rfl rfl rfl (pqZ)) ?_
          rintro _ _ ⟨_, ⟨es2, mc2, rfl, rfl, hM2⟩, rfl⟩
          refine WL_val rfl rfl rfl (R_move rfl rfl) ?_
          refine WL_val rfl rfl rfl (R_extract rfl rfl rfl) ?_
          refine WL_val rfl rfl rfl (R_extract rfl rfl rfl) ?_
          refine WL_val rfl rfl rfl (R_nilCheck rfl rfl) ?_
          refine WL_val rfl rfl rfl (R_fieldAddr rfl fa269_1 rfl) ?_
          refine WL_do0 rfl rfl (D_store (vs := [_]) rfl Tryz.sizeOf27 rfl rfl rfl rfl rfl (plZ) (by exact fm_room0 encE2 (by rw [List.length_set]; exact lt_of3 hi) (j := 1) (by omega))) ?_
          rintro _ _ rfl
          have hput2 := fm_put0 encE2 (to, n + 1) (show (S.set i (to, 0))[i]? = some (to, 0) by simp [lt_of3 hi]) (j := 1) (vs := [.int .u64 ((n + 1 : Nat) : Int)]) (by simp) rfl (tl := tl)
          rw [List.set_set] at hput2
          rw [hput2, hto, show (S.set i (1, 0)).length = (S.set i (1, n + 1)).length from by rw [List.length_set, List.length_set]]
          refine WL_nil ?_
          refine WQ_code ?_
          refine WC_seq ?_
          refine WC_region ?_
          refine WL_val rfl rfl rfl (R_assign rfl rfl) ?_
          refine WL_nil ?_
          refine WQ_code ?_
          refine WC_ret ?_
          refine WQ_ret rfl rfl (.cons (.tmp rfl) .nil) rfl (by
              exact ⟨_, S.set i (1, n + 1), (A ++ B) ++ [(n + 1, (i : Int))], n + 1, es2, mc2, tl, rfl, rfl, hM2, Nat.le_refl _, List.length_set, hk2, .inr ⟨i, x, t, rfl, hi, .inr ⟨hxf, rfl, by rw [List.map_set], by rw [List.map_append, vals_rem hk, if_pos rfl]; rfl⟩⟩⟩) (pqZ)
        · have hto : to ≠ 1 := c4
          have hk2 := tk_leave (to := to) hk (by rcases hof with h | h | h | h | h <;> omega) 0
          refine WC_skip ?_
          refine WQ_code ?_
          refine WC_seq ?_
          refine WC_region ?_
          refine WL_val rfl rfl rfl (R_assign rfl rfl) ?_
          refine WL_nil ?_
          refine WQ_code ?_
          refine WC_ret ?_
          refine WQ_ret rfl rfl (.cons (.tmp rfl) .nil) rfl (by
              exact ⟨_, S.set i (to, 0), A ++ B, n, es1, mc1, tl, rfl, rfl, hM1, by omega, List.length_set, hk2, .inr ⟨i, x, t, rfl, hi, .inr ⟨hxf, rfl, by rw [List.map_set], by rw [vals_rem hk, if_neg hto, List.append_nil]⟩⟩⟩) (pqZ)
      · have hx1 : x ≠ 1 := c3
        refine WC_skip ?_
        refine WQ_code ?_
        refine WC_seq ?_
        refine WC_region ?_
        refine WL_val rfl rfl rfl (R_move rfl rfl) ?_
        refine WL_val rfl rfl rfl (R_fieldAddr rfl fa296_1 rfl) ?_
        refine WL_val rfl rfl rfl (R_load rfl sc64 rfl (mmZ) rfl) ?_
        refine WL_val rfl rfl rfl (R_build rfl zv269 pl269 rfl rfl) ?_
        refine WL_val rfl rfl rfl (R_nilCheck rfl rfl) ?_
        refine WL_do0 rfl rfl (D_store (vs := [_, _]) rfl Tryz.sizeOf269 rfl rfl rfl rfl rfl (plZ) (by exact fm_room0 encE2 (lt_of3 hi) (j := 0) (by omega))) ?_
        rintro _ _ rfl
        have hput := fm_put0 encE2 (to, 0) hi (j := 0) (vs := [.int .i64 to, .int .u64 0]) (by simp) rfl (tl := tl)
        rw [Nat.add_zero] at hput
        rw [hput, show S.length = (S.set i (to, 0)).length from List.length_set.symm]
        refine WL_nil ?_
        refine WQ_code ?_
        refine WC_seq ?_
        refine WC_seq ?_
        refine WC_region ?_
        refine WL_val rfl rfl rfl (R_fieldAddr rfl fa296_1 rfl) ?_
        refine WL_val rfl rfl rfl (R_load rfl sc64 rfl (mmZ) rfl) ?_
        refine WL_val rfl rfl rfl (R_eql rfl rfl rfl) ?_
        refine WL_nil ?_
        refine WQ_code ?_
        refine WC_dec rfl (fun c5 => ?_) (fun c5 => ?_)
        · have hto : to = 1 := c5
          have hk2 := tk_enter hk hi hx1
          refine WC_region ?_
          refine WL_val rfl rfl rfl (R_move rfl rfl) ?_
          refine WL_val rfl rfl rfl (R_move rfl rfl) ?_
          refine WL_val rfl rfl rfl (R_nilCheck rfl rfl) ?_
          refine WL_val rfl rfl rfl (R_fieldAddr rfl fa239_1 rfl) ?_
          refine WL_val rfl rfl rfl (R_load rfl sc177 rfl (mmZ) rfl) ?_
          refine WL_val rfl rfl rfl (R_move rfl rfl) ?_
          refine WL_do rfl rfl rfl (D_call (qpush_ok pq pm Q n es mc hk.qk hM (by omega) (by omega) (i : Int)) rfl rfl rfl rfl (pqZ)) ?_
          rintro _ _ ⟨_, ⟨es2, mc2, rfl, rfl, hM2⟩, rfl⟩
          refine WL_val rfl rfl rfl (R_move rfl rfl) ?_
          refine WL_val rfl rfl rfl (R_extract rfl rfl rfl) ?_
          refine WL_val rfl rfl rfl (R_extract rfl rfl rfl) ?_
          refine WL_val rfl rfl rfl (R_nilCheck rfl rfl) ?_
          refine WL_val rfl rfl rfl (R_fieldAddr rfl fa269_1 rfl) ?_
          refine WL_do0 rfl rfl (D_store (vs := [_]) rfl Tryz.sizeOf27 rfl rfl rfl rfl rfl (plZ) (by exact fm_room0 encE2 (by rw [List.length_set]; exact lt_of3 hi) (j := 1) (by omega))) ?_
          rintro _ _ rfl
          have hput2 := fm_put0 encE2 (to, n + 1) (show (S.set i (to, 0))[i]? = some (to, 0) by simp [lt_of3 hi]) (j := 1) (vs := [.int .u64 ((n + 1 : Nat) : Int)]) (by simp) rfl (tl := tl)
          rw [List.set_set] at hput2
          rw [hput2, hto, show (S.set i (1, 0)).length = (S.set i (1, n + 1)).length from by rw [List.length_set, List.length_set]]
          refine WL_nil ?_
          refine WQ_code ?_
          refine WC_seq ?_
          refine WC_region ?_
          refine WL_val rfl rfl rfl (R_assign rfl rfl) ?_
          refine WL_nil ?_
          refine WQ_code ?_
          refine WC_ret ?_
          refine WQ_ret rfl rfl (.cons (.tmp rfl) .nil) rfl (by
              exact ⟨_, S.set i (1, n + 1), Q ++ [(n + 1, (i : Int))], n + 1, es2, mc2, tl, rfl, rfl, hM2, Nat.le_refl _, List.length_set, hk2, .inr ⟨i, x, t, rfl, hi, .inr ⟨hxf, rfl, by rw [List.map_set], by rw [List.map_append, vals_same hk hi hx1, if_pos rfl]; rfl⟩⟩⟩) (pqZ)
        · exfalso; have hto : to ≠ 1 := c5; rcases hof with h | h | h | h | h <;> omega
end Go.Proofs.YtbkdebnkoidicaaGreat
end
section
set_option linter.unusedVariables false
set_option maxRecDepth 20000
set_option maxHeartbeats 1000000
namespace Go.Proofs.YtbkdebnkoidicaaGreat
theorem start_ok (p pe pq pm : Nat) (S : List (Int × Nat)) (c : Nat) (tl : List Value) (Q : List (Nat × Int)) (n : Nat) (es : Array MapEntry) (mc : Nat) (hk : Tk S Q n) (hM : Mp (.int .u64) ekQ evQ es (nds 0 0 Q)) (hn : n < 1000000) (i : Int) : Spec Tryz.prog 92 [ptrQ p, .int .i64 i] (tH p pe pq pm S c tl Q n es mc)
    (fun r H' => ∃ e S' Q' n' es' mc' tl', r = .int .i64 e ∧ H' = tH p pe pq pm S' c tl' Q' n' es' mc' ∧ Mp (.int .u64) ekQ evQ es' (nds 0 0 Q') ∧ DoQ S Q n 0 1 i e S' Q' n') := by
  refine Spec.of (E := [(0, ptrQ p), (1, .int .i64 i)]) Tryz.func92 rfl (by kernel_rfl) Tryz.ntmps92 rfl rfl (fun w => ?_)
  refine WC_seq ?_
  refine WC_region ?_
  refine WL_val rfl rfl rfl (R_assign rfl rfl) ?_
  refine WL_nil ?_
  refine WQ_code ?_
  refine WC_seq ?_
  refine WC_region ?_
  refine WL_val rfl rfl rfl (R_move rfl rfl) ?_
  refine WL_val rfl rfl rfl (R_move rfl rfl) ?_
  refine WL_do rfl rfl rfl (D_call (do_ok p pe pq pm S c tl Q n es mc hk hM hn 0 0 1 (by decide) i) rfl rfl rfl rfl (pqZ)) ?_
  rintro _ _ ⟨_, ⟨e, S', Q', n', es', mc', tl', rfl, rfl, hM', hd⟩, rfl⟩
  refine WL_val rfl rfl rfl (R_assign rfl rfl) ?_
  refine WL_nil ?_
  refine WQ_code ?_
  refine WC_ret ?_
  refine WQ_ret rfl rfl (.cons (.tmp rfl) .nil) rfl (by
      exact ⟨e, S', Q', n', es', mc', tl', rfl, rfl, hM', hd⟩) (pqZ)
theorem park_ok (p pe pq pm : Nat) (S : List (Int × Nat)) (c : Nat) (tl : List Value) (Q : List (Nat × Int)) (n : Nat) (es : Array MapEntry) (mc : Nat) (hk : Tk S Q n) (hM : Mp (.int .u64) ekQ evQ es (nds 0 0 Q)) (hn : n < 1000000) (i : Int) : Spec Tryz.prog 96 [ptrQ p, .int .i64 i] (tH p pe pq pm S c tl Q n es mc)
    (fun r H' => ∃ e S' Q' n' es' mc' tl', r = .int .i64 e ∧ H' = tH p pe pq pm S' c tl' Q' n' es' mc' ∧ Mp (.int .u64) ekQ evQ es' (nds 0 0 Q') ∧ DoQ S Q n 1 2 i e S' Q' n') := by
  refine Spec.of (E := [(0, ptrQ p), (1, .int .i64 i)]) Tryz.func96 rfl (by kernel_rfl) Tryz.ntmps96 rfl rfl (fun w => ?_)
  refine WC_seq ?_
  refine WC_region ?_
  refine WL_val rfl rfl rfl (R_assign rfl rfl) ?_
  refine WL_nil ?_
  refine WQ_code ?_
  refine WC_seq ?_
  refine WC_region ?_
  refine WL_val rfl rfl rfl (R_move rfl rfl) ?_
  refine WL_val rfl rfl rfl (R_move rfl rfl) ?_
  refine WL_do rfl rfl rfl (D_call (do_ok p pe pq pm S c tl Q n es mc hk hM hn 1 1 2 (by decide) i) rfl rfl rfl rfl (pqZ)) ?_
  rintro _ _ ⟨_, ⟨e, S', Q', n', es', mc', tl', rfl, rfl, hM', hd⟩, rfl⟩
  refine WL_val rfl rfl rfl (R_assign rfl rfl) ?_
  refine WL_nil ?_
  refine WQ_code ?_
  refine WC_ret ?_
  refine WQ_ret rfl rfl (.cons (.tmp rfl) .nil) rfl (by
      exact ⟨e, S', Q', n', es', mc', tl', rfl, rfl, hM', hd⟩) (pqZ)
theorem wake_ok (p pe pq pm : Nat) (S : List (Int × Nat)) (c : Nat) (tl : List Value) (Q : List (Nat × Int)) (n : Nat) (es : Array MapEntry) (mc : Nat) (hk : Tk S Q n) (hM : Mp (.int .u64) ekQ evQ es (nds 0 0 Q)) (hn : n < 1000000) (i : Int) : Spec Tryz.prog 161 [ptrQ p, .int .i64 i] (tH p pe pq pm S c tl Q n es mc)
    (fun r H' => ∃ e S' Q' n' es' mc' tl', r = .int .i64 e ∧ H' = tH p pe pq pm S' c tl' Q' n' es' mc' ∧ Mp (.int .u64) ekQ evQ es' (nds 0 0 Q') ∧ DoQ S Q n 2 1 i e S' Q' n') := by
  refine Spec.of (E := [(0, ptrQ p), (1, .int .i64 i)]) Tryz.func161 rfl (by kernel_rfl) Tryz.ntmps161 rfl rfl (fun w => ?_)
  refine WC_seq ?_
  refine WC_region ?_
  refine WL_val rfl rfl rfl (R_assign rfl rfl) ?_
  refine WL_nil ?_
  refine WQ_code ?_
  refine WC_seq ?_
  refine WC_region ?_
  refine WL_val rfl rfl rfl (R_move rfl rfl) ?_
  refine WL_val rfl rfl rfl (R_move rfl rfl) ?_
  refine WL_do rfl rfl rfl (D_call (do_ok p pe pq pm S c tl Q n es mc hk hM hn 2 2 1 (by decide) i) rfl rfl rfl rfl (pqZ)) ?_
  rintro _ _ ⟨_, ⟨e, S', Q', n', es', mc', tl', rfl, rfl, hM', hd⟩, rfl⟩
  refine WL_val rfl rfl rfl (R_assign rfl rfl) ?_
  refine WL_nil ?_
  refine WQ_code ?_
  refine WC_ret ?_
  refine WQ_ret rfl rfl (.cons (.tmp rfl) .nil) rfl (by
      exact ⟨e, S', Q', n', es', mc', tl', rfl, rfl, hM', hd⟩) (pqZ)
end Go.Proofs.YtbkdebnkoidicaaGreat
end
section
set_option linter.unusedVariables false
set_option maxRecDepth 20000
set_option maxHeartbeats 1000000
namespace Go.Proofs.YtbkdebnkoidicaaGreat
theorem state_ok (p pe pq : Nat) (S : List (Int × Nat)) (c : Nat) (tl : List Value) (hl : S.length ≤ 64) (i : Int) : Spec Tryz.prog 118 [ptrQ p, .int .i64 i] (tR p pe pq S c tl)
    (fun r H' => ∃ s e, r = .tuple #[.int .i64 s, .int .i64 e] ∧ H' = tR p pe pq S c tl ∧ (((i < 0 ∨ (S.length : Int) ≤ i) ∧ s = 0 ∧ e = 2) ∨ ∃ (j : Nat) (t : Nat), i = (j : Int) ∧ S[j]? = some (s, t) ∧ e = 0)) := by
  refine Spec.of (E := [(0, ptrQ p), (1, .int .i64 i)]) Tryz.func118 rfl (by kernel_rfl) Tryz.ntmps118 rfl rfl (fun w => ?_)
  refine WC_seq ?_
  refine WC_region ?_
  refine WL_val rfl rfl rfl (R_assign rfl rfl) ?_
  refine WL_val rfl rfl rfl (R_assign rfl rfl) ?_
  refine WL_nil ?_
  refine WQ_code ?_
  refine WC_seq ?_
  refine WC_seq ?_
  refine WC_region ?_
  refine WL_val rfl rfl rfl (R_move rfl rfl) ?_
  refine WL_val rfl rfl rfl (R_move rfl rfl) ?_
  refine WL_do rfl rfl rfl (D_call (check_ok p pe pq S c tl i) rfl rfl rfl rfl (pqZ)) ?_
  rintro _ _ ⟨_, ⟨rfl, rfl⟩, rfl⟩
  refine WL_val rfl rfl rfl (R_assign rfl rfl) ?_
  refine WL_nil ?_
  refine WQ_code ?_
  refine WC_seq ?_
  refine WC_region ?_
  refine WL_val rfl rfl rfl (R_move rfl rfl) ?_
  refine WL_val rfl rfl rfl (R_neq rfl rfl rfl) ?_
  refine WL_nil ?_
  refine WQ_code ?_
  refine WC_dec rfl (fun c1 => ?_) (fun c1 => ?_)
  · have hr : i < 0 ∨ (S.length : Int) ≤ i := by by_cases h9 : i < 0 ∨ (S.length : Int) ≤ i; exact h9; exact absurd (if_neg h9) c1
    refine WC_seq ?_
    refine WC_region ?_
    refine WL_val rfl rfl rfl (R_move rfl rfl) ?_
    refine WL_val rfl rfl rfl (R_assign rfl rfl) ?_
    refine WL_val rfl rfl rfl (R_assign rfl rfl) ?_
    refine WL_nil ?_
    refine WQ_code ?_
    refine WC_ret ?_
    refine WQ_ret rfl rfl (.cons (.tmp rfl) (.cons (.tmp rfl) .nil)) rfl (by
        exact ⟨_, _, rfl, rfl, .inl ⟨hr, rfl, if_pos hr⟩⟩) (pqZ)
  · have hr : ¬ (i < 0 ∨ (S.length : Int) ≤ i) := fun h9 => c1 (by rw [if_pos h9]; decide)
    obtain ⟨i, rfl⟩ := Int.eq_ofNat_of_zero_le (show 0 ≤ i by omega)
    obtain ⟨⟨x, t⟩, hi⟩ := exE (T := S) (i := i) (by omega)
    refine WC_skip ?_
    refine WQ_code ?_
    refine WC_seq ?_
    refine WC_region ?_
    refine WL_val rfl rfl rfl (R_move rfl rfl) ?_
    refine WL_val rfl rfl rfl (R_nilCheck rfl rfl) ?_
    refine WL_val rfl rfl rfl (R_fieldAddr rfl fa239_0 rfl) ?_
    refine WL_val rfl rfl rfl (R_load rfl sc237 rfl (mmZ) rfl) ?_
    refine WL_val rfl rfl rfl (R_move rfl rfl) ?_
    refine WL_val rfl rfl rfl (R_indexAddrN rfl Tryz.underlying237 Tryz.sizeOf269 rfl rfl (by omega)) ?_
    refine WL_val rfl rfl rfl (R_fieldAddr rfl fa269_0 rfl) ?_
    refine WL_val rfl rfl rfl (R_load rfl sc64 rfl (mmZ) (fm_get0 encE2 hi (j := 0) (by omega))) ?_
    refine WL_val rfl rfl rfl (R_assign rfl rfl) ?_
    refine WL_val rfl rfl rfl (R_assign rfl rfl) ?_
    refine WL_nil ?_
    refine WQ_code ?_
    refine WC_ret ?_
    refine WQ_ret rfl rfl (.cons (.tmp rfl) (.cons (.tmp rfl) .nil)) rfl (by
        exact ⟨x, _, rfl, rfl, .inr ⟨i, t, rfl, hi, rfl⟩⟩) (pqZ)
structure RS where
  l : List Int
  ob : Option Nat
  c : Nat
  tl : List Value
theorem ready_ok (p pe pq pm : Nat) (S : List (Int × Nat)) (c : Nat) (tl : List Value) (Q : List (Nat × Int)) (n : Nat) (es : Array MapEntry) (mc : Nat) (hk : Tk S Q n) (hM : Mp (.int .u64) ekQ evQ es (nds 0 0 Q)) : Spec Tryz.prog 112 [ptrQ p] (tH p pe pq pm S c tl Q n es mc)
    (fun r H' => ∃ ob c' tl', r = slV ob Q.length c' ∧ Own ob Q.length c' 1 (ivs (Q.map (·.2))) tl' ∧ H' = ⟨ob, cl (ivs (Q.map (·.2)) ++ tl') 3⟩ :: (tH p pe pq pm S c tl Q n es mc)) := by
  have hroom := hk.room
  refine Spec.ofM (E := [(0, ptrQ p)]) Tryz.func112 rfl (by kernel_rfl) Tryz.ntmps112 rfl rfl (fun w => ?_)
  refine WC_seq ?_
  refine WC_region ?_
  refine WL_val rfl rfl rfl (R_assign rfl rfl) ?_
  refine WL_nil ?_
  refine WQ_code ?_
  refine WC_seq ?_
  refine WC_seq ?_
  refine WC_region ?_
  refine WL_val rfl rfl rfl (R_move rfl rfl) ?_
  refine WL_val rfl rfl rfl (R_ptrEqNil rfl Tryz.underlying148 rfl) ?_
  refine WL_nil ?_
  refine WQ_code ?_
  refine WC_F rfl ?_
  refine WC_skip ?_
  refine WQ_code ?_
  refine WC_seq ?_
  refine WC_region ?_
  refine WL_do rfl rfl rfl (D_alloc rfl zv34) ?_
  rintro _ _ ⟨b1, rfl, rfl⟩
  refine WL_nil ?_
  refine WQ_code ?_
  refine WC_seq ?_
  refine WC_seq ?_
  refine WC_region ?_
  refine WL_val rfl rfl rfl (R_move rfl rfl) ?_
  refine WL_val rfl rfl rfl (R_nilCheck rfl rfl) ?_
  refine WL_val rfl rfl rfl (R_fieldAddr rfl fa239_1 rfl) ?_
  refine WL_val rfl rfl rfl (R_load rfl sc177 rfl (mmZ) rfl) ?_
  refine WL_do rfl rfl rfl (D_call (qall_ok pq pm Q n es mc) rfl rfl rfl rfl (pqZ)) ?_
  rintro _ _ ⟨_, ⟨bc, p2, m2, rfl, rfl⟩, rfl⟩
  refine WL_nil ?_
  refine WQ_code ?_
  refine WC_block ?_
  refine WC_none 3 ?_
  refine WC_range (G := RS) (GX := Unit) (qiter_ok bc p2 m2 Q n es mc hk.qk hM) rfl rfl (fun _ => rfl) rfl (fun pre g => g.l = pre.map (·.2) ∧ pre.length ≤ Q.length ∧ Own g.ob g.l.length g.c 1 (ivs g.l) g.tl) (fun g => [⟨some b1, cl [slV g.ob g.l.length g.c] 34⟩, ⟨g.ob, cl (ivs g.l ++ g.tl) 3⟩]) (fun _ _ _ => False) (fun _ => []) (⟨[], none, 0, []⟩) (⟨rfl, Nat.zero_le _, Own.empty 1⟩) (pqZ) (pqZ) ?_ ?_ ?_
  · intro l pre x suf gg hx hI w2
    obtain ⟨hgl, hgn, hown⟩ := hI
    have hlt : pre.length < Q.length := by rw [hx, List.length_append, List.length_cons]; omega
    have hgl2 : gg.l.length = pre.length := by rw [hgl, List.length_map]
    refine WC_region ?_
    refine WL_val rfl rfl rfl (R_assign rfl rfl) ?_
    refine WL_nil ?_
    refine WQ_begin (fun w3 => ?_)
    refine WC_block ?_
    refine WC_region ?_
    refine WL_val rfl rfl rfl (R_load rfl sc34 rfl (mmZ) rfl) ?_
    refine WL_val rfl rfl rfl (R_move rfl rfl) ?_
    refine WL_do rfl rfl rfl (D_buildSlice rfl si34 rfl rfl rfl) ?_
    rintro _ _ ⟨b2, rfl, rfl⟩
    refine WL_do rfl rfl rfl (D_append rfl si34 rfl (hown) (plZ) rfl (mmZ) ((atZ : At _ 0 [_])) (rfl) (rfl) (by omega) (by omega)) ?_
    rintro _ _ ⟨ob3, cap3, tl3, rfl, own3, rfl⟩
    have hsn : ivs gg.l ++ [Value.int .i64 x.2] = ivs (gg.l ++ [x.2]) := by simp
    rw [hsn] at own3 ⊢
    refine WL_do0 rfl rfl (D_store (vs := [_]) rfl Tryz.sizeOf34 rfl rfl rfl rfl rfl (plZ) (by exact Nat.le_of_ble_eq_true rfl)) ?_
    rintro _ _ rfl
    refine WL_nil ?_
    rw [show gg.l.length + 1 = (gg.l ++ [x.2]).length from by rw [List.length_append, List.length_singleton]]
    refine WQ_rnd (⟨gg.l ++ [x.2], ob3, cap3, tl3⟩) ?_ (pqZ)
    exact (⟨by rw [hgl, List.map_append]; rfl, by rw [List.length_append, List.length_singleton]; omega, by rw [List.length_append, List.length_singleton]; exact own3⟩)
  · intro dl gg hI
    obtain ⟨hgl, hgn, hown⟩ := hI
    have hgl2 : gg.l.length = Q.length := by rw [hgl, List.length_map]
    rw [hgl2, hgl]
    rw [hgl2, hgl] at hown
    refine WQ_code ?_
    refine WC_seq ?_
    refine WC_region ?_
    refine WL_val rfl rfl rfl (R_load rfl sc34 rfl (mmZ) rfl) ?_
    refine WL_val rfl rfl rfl (R_assign rfl rfl) ?_
    refine WL_nil ?_
    refine WQ_code ?_
    refine WC_ret ?_
    refine WQ_retM rfl (plZ) rfl (.cons (.tmp rfl) .nil) rfl (by
        exact ⟨gg.ob, gg.c, gg.tl, rfl, hown, rfl⟩) (pqZ)
  · intro dl c pre gx hIx
    exact hIx.elim
def nxt (Q : List (Nat × Int)) : Int × Int := match Q with
  | [] => (0, 9)
  | (_, v) :: _ => (v, 0)
theorem same_ok (l : List Int) (hl : l.length ≤ 1000000) (o1 : Option Nat) (c1 : Nat) (t1 : List Value) (o2 : Option Nat) (c2 : Nat) (t2 : List Value) (h1 : Own o1 l.length c1 1 (ivs l) t1) (h2 : Own o2 l.length c2 1 (ivs l) t2) :
    Spec Tryz.prog 20 [slV o1 l.length c1, slV o2 l.length c2] [⟨o1, cl (ivs l ++ t1) 3⟩, ⟨o2, cl (ivs l ++ t2) 3⟩] (fun r H' => r = .bool true ∧ H' = [⟨o1, cl (ivs l ++ t1) 3⟩, ⟨o2, cl (ivs l ++ t2) 3⟩]) := by
  refine Spec.of (E := [(0, slV o1 l.length c1), (1, slV o2 l.length c2)]) Tryz.func20 rfl (by kernel_rfl) Tryz.ntmps20 rfl rfl (fun w => ?_)
  refine WC_seq ?_
  refine WC_region ?_
  refine WL_val rfl rfl rfl (R_assign rfl rfl) ?_
  refine WL_nil ?_
  refine WQ_code ?_
  refine WC_seq ?_
  refine WC_seq ?_
  refine WC_region ?_
  refine WL_val rfl rfl rfl (R_move rfl rfl) ?_
  refine WL_val rfl rfl rfl (R_len rfl Tryz.underlying34 rfl) ?_
  refine WL_val rfl rfl rfl (R_move rfl rfl) ?_
  refine WL_val rfl rfl rfl (R_len rfl Tryz.underlying34 rfl) ?_
  refine WL_val rfl rfl rfl (R_neq rfl rfl rfl) ?_
  refine WL_nil ?_
  refine WQ_code ?_
  refine WC_dF rfl (by simp) ?_
  refine WC_skip ?_
  refine WQ_code ?_
  refine WC_seq ?_
  refine WC_seq ?_
  refine WC_region ?_
  refine WL_val rfl rfl rfl (R_assign rfl rfl) ?_
  refine WL_nil ?_
  refine WQ_code ?_
  refine WC_block ?_
  refine WC_loopF (G := Nat) [4, 5, 11, 12, 13, 14, 15, 16, 17, 18, 19, 20, 21, 22, 23, 24, 25] (fun k => k ≤ l.length) (fun k => [(5, .int .i64 (k : Int))]) (fun k => []) (fun k => l.length - k) (0) (Nat.zero_le _) leZ (pqZ) ?_
  rintro k hk
  refine WC_seq ?_
  refine WC_seq ?_
  refine WC_region ?_
  refine WL_val rfl rfl rfl (R_move rfl rfl) ?_
  refine WL_val rfl rfl rfl (R_move rfl rfl) ?_
  refine WL_val rfl rfl rfl (R_len rfl Tryz.underlying34 rfl) ?_
  refine WL_val rfl rfl rfl (R_lss rfl rfl rfl) ?_
  refine WL_nil ?_
  refine WQ_code ?_
  refine WC_dec rfl (fun c1 => ?_) (fun c1 => ?_)
  · refine WC_skip ?_
    refine WQ_code ?_
    refine WC_seq ?_
    refine WC_block ?_
    refine WC_seq ?_
    refine WC_draw _ [(0, true), (1, true), (2, true), (3, true), (4, true), (5, true), (6, true), (7, true), (8, true)] followsMixed rfl rfl (by kernel_rfl) .all ?_
    refine WM_val rfl rfl rfl rfl (R_move rfl rfl) ?_
    refine WM_val rfl rfl rfl rfl (R_move rfl rfl) ?_
    obtain ⟨x, hx⟩ := exE (T := l) (i := k) (by omega)
    obtain ⟨wb1, rfl⟩ := h1.some_of (by omega)
    obtain ⟨wb2, rfl⟩ := h2.some_of (by omega)
    refine WM_val rfl rfl rfl rfl (R_indexAddrN rfl Tryz.underlying34 Tryz.sizeOf3 rfl rfl (by omega)) ?_
    refine WM_val rfl rfl rfl rfl (R_load (v := .int .i64 x) rfl sc3 rfl (mmZ) (fm_get0 encI1 hx (j := 0) (by omega))) ?_
    refine WM_val rfl rfl rfl rfl (R_move rfl rfl) ?_
    refine WM_val rfl rfl rfl rfl (R_move rfl rfl) ?_
    refine WM_val rfl rfl rfl rfl (R_indexAddrN rfl Tryz.underlying34 Tryz.sizeOf3 rfl rfl (by omega)) ?_
    refine WM_val rfl rfl rfl rfl (R_load (v := .int .i64 x) rfl sc3 rfl (mmZ) (fm_get0 encI1 hx (j := 0) (by omega))) ?_
    refine WM_val rfl rfl rfl rfl (R_neq rfl rfl rfl) ?_
    refine WM_nil ?_
    refine WQ_code ?_
    refine WC_dF rfl (by simp) ?_
    refine WC_skip ?_
    refine WQ_code ?_
    refine WC_region ?_
    refine WL_val rfl rfl rfl (R_move rfl rfl) ?_
    refine WL_val rfl rfl rfl (R_add rfl rfl rfl (by omega)) ?_
    refine WL_val rfl rfl rfl (R_assign rfl rfl) ?_
    refine WL_nil ?_
    refine WQ_nextF (k + 1) (by omega) (by omega) leZ (psZ) rfl (pqZ)
  · refine WC_exit ?_
    refine WQ_code ?_
    refine WC_seq ?_
    refine WC_region ?_
    refine WL_val rfl rfl rfl (R_assign rfl rfl) ?_
    refine WL_nil ?_
    refine WQ_code ?_
    refine WC_ret ?_
    refine WQ_ret rfl rfl (.cons (.tmp rfl) .nil) rfl (by
        exact ⟨rfl, rfl⟩) (pqZ)
end Go.Proofs.YtbkdebnkoidicaaGreat
end
section
set_option linter.unusedVariables false
set_option maxRecDepth 20000
set_option maxHeartbeats 1000000
namespace Go.Proofs.YtbkdebnkoidicaaGreat
/-- A table with these states and this run set. -/
structure Tw (sm qm : List Int) (S : List (Int × Nat)) (Q : List (Nat × Int)) (n : Nat) (es : Array MapEntry) : Prop where
  tk : Tk S Q n
  mp : Mp (.int .u64) ekQ evQ es (nds 0 0 Q)
  sm : S.map (·.1) = sm
  qm : Q.map (·.2) = qm
theorem tw_idle {m : Nat} (h1 : 1 ≤ m) (h2 : m ≤ 64) : Tw (List.replicate m 0) [] (idle m) [] 0 #[] := ⟨tk_idle h1 h2, mp_new, by simp [idle], rfl⟩
theorem doq_run {S S' : List (Int × Nat)} {Q Q' : List (Nat × Int)} {n n' i : Nat} {fr to e : Int} {sm qm : List Int} {es es' : Array MapEntry} (hw : Tw sm qm S Q n es) (hM : Mp (.int .u64) ekQ evQ es' (nds 0 0 Q')) (h : DoQ S Q n fr to (i : Int) e S' Q' n') (hi : sm[i]? = some fr) :
    e = 0 ∧ Tw (sm.set i to) (qm.filter (fun v => decide (v ≠ (i : Int))) ++ (if to = 1 then [(i : Int)] else [])) S' Q' n' es' ∧ n' ≤ n + 1 := by
  obtain ⟨h1, h2, h3, h4⟩ := h
  have hi2 : i < S.length := by
    have := (List.getElem?_eq_some_iff.1 hi).1
    rw [← hw.sm, List.length_map] at this; exact this
  rcases h4 with ⟨h4, _⟩ | ⟨j, x, t, hj, hS, h4⟩
  · omega
  · obtain rfl : i = j := by omega
    have hx : x = fr := by
      rw [← hw.sm, List.getElem?_map, hS] at hi
      simpa using hi
    rcases h4 with ⟨h4, _⟩ | ⟨_, h5, h6, h7⟩
    · exact absurd hx h4
    · exact ⟨h5, ⟨h3, hM, by rw [h6, hw.sm], by rw [h7, hw.qm]⟩, h1⟩
theorem doq_bad {S S' : List (Int × Nat)} {Q Q' : List (Nat × Int)} {n n' i : Nat} {fr to e x : Int} {sm qm : List Int} {es es' : Array MapEntry} (hw : Tw sm qm S Q n es) (hM : Mp (.int .u64) ekQ evQ es' (nds 0 0 Q')) (h : DoQ S Q n fr to (i : Int) e S' Q' n') (hi : sm[i]? = some x) (hx : x ≠ fr) :
    e = 8 ∧ Tw sm qm S' Q' n' es' ∧ n' ≤ n + 1 := by
  obtain ⟨h1, h2, h3, h4⟩ := h
  have hi2 : i < S.length := by
    have := (List.getElem?_eq_some_iff.1 hi).1
    rw [← hw.sm, List.length_map] at this; exact this
  rcases h4 with ⟨h4, _⟩ | ⟨j, y, t, hj, hS, h4⟩
  · omega
  · obtain rfl : i = j := by omega
    have hy : y = x := by
      rw [← hw.sm, List.getElem?_map, hS] at hi
      simpa using hi
    rcases h4 with ⟨_, h5, rfl, rfl⟩ | ⟨h4, _⟩
    · exact ⟨h5, ⟨h3, hM, hw.sm, hw.qm⟩, h1⟩
    · exact absurd (hy.symm.trans h4) hx
theorem ready_run (p pe pq pm : Nat) (S : List (Int × Nat)) (c : Nat) (tl : List Value) (Q : List (Nat × Int)) (n : Nat) (es : Array MapEntry) (mc : Nat) (sm qm : List Int) (hw : Tw sm qm S Q n es) : Spec Tryz.prog 112 [ptrQ p] (tH p pe pq pm S c tl Q n es mc) (fun r H' => ∃ ob c' tl', r = slV ob qm.length c' ∧ Own ob qm.length c' 1 (ivs qm) tl' ∧ H' = ⟨ob, cl (ivs qm ++ tl') 3⟩ :: (tH p pe pq pm S c tl Q n es mc)) := by
  have h := ready_ok p pe pq pm S c tl Q n es mc hw.tk hw.mp
  rw [hw.qm] at h
  have hl : Q.length = qm.length := by rw [← hw.qm, List.length_map]
  rw [hl] at h
  exact h
theorem state_run (p pe pq pm : Nat) (S : List (Int × Nat)) (c : Nat) (tl : List Value) (Q : List (Nat × Int)) (n : Nat) (es : Array MapEntry) (mc : Nat) (sm qm : List Int) (hw : Tw sm qm S Q n es) (i : Nat) (x : Int) (h : sm[i]? = some x) : Spec Tryz.prog 118 [ptrQ p, .int .i64 (i : Int)] (tR p pe pq S c tl) (fun r H' => r = .tuple #[.int .i64 x, .int .i64 0] ∧ H' = tR p pe pq S c tl) :=
  (state_ok p pe pq S c tl hw.tk.len.2 i).mono fun r H' ⟨s, e, h1, h2, h3⟩ => by
    refine ⟨?_, h2⟩
    have hl : i < S.length := by
      have := (List.getElem?_eq_some_iff.1 h).1
      rw [← hw.sm, List.length_map] at this; exact this
    rcases h3 with ⟨h3, _⟩ | ⟨j, t, hj, hS, rfl⟩
    · omega
    · obtain rfl : i = j := by omega
      rw [← hw.sm, List.getElem?_map, hS] at h
      simp only [Option.map_some, Option.some.injEq] at h
      rw [h1, h]
theorem state_out (p pe pq pm : Nat) (S : List (Int × Nat)) (c : Nat) (tl : List Value) (Q : List (Nat × Int)) (n : Nat) (es : Array MapEntry) (mc : Nat) (sm qm : List Int) (hw : Tw sm qm S Q n es) (i : Int) (h : i < 0 ∨ (sm.length : Int) ≤ i) : Spec Tryz.prog 118 [ptrQ p, .int .i64 i] (tR p pe pq S c tl) (fun r H' => r = .tuple #[.int .i64 0, .int .i64 2] ∧ H' = tR p pe pq S c tl) :=
  (state_ok p pe pq S c tl hw.tk.len.2 i).mono fun r H' ⟨s, e, h1, h2, h3⟩ => by
    refine ⟨?_, h2⟩
    have hl : sm.length = S.length := by rw [← hw.sm, List.length_map]
    rcases h3 with ⟨_, rfl, rfl⟩ | ⟨j, t, hj, hS, _⟩
    · exact h1
    · have := (List.getElem?_eq_some_iff.1 hS).1; omega
end Go.Proofs.YtbkdebnkoidicaaGreat
end
section
set_option linter.unusedVariables false
set_option maxRecDepth 20000
set_option maxHeartbeats 1000000
namespace Go.Proofs.YtbkdebnkoidicaaGreat
theorem take_get {l : List Int} {k : Nat} {v : Int} (h : l[k]? = some v) : l.take (k + 1) = l.take k ++ [v] := by
  obtain ⟨h1, rfl⟩ := List.getElem?_eq_some_iff.1 h
  rw [List.take_append_getElem]
theorem ivs_one (l : List Int) : (ivs l).all Value.oneCell' = true := fm_all (fun _ => rfl) l
def stR (sm : List Int) (i : Int) : Int × Int := if i < 0 ∨ (sm.length : Int) ≤ i then (0, 2) else ((sm[i.toNat]?).getD 0, 0)
theorem stR_out {sm : List Int} {i : Int} (h : i < 0 ∨ (sm.length : Int) ≤ i) : stR sm i = (0, 2) := if_pos h
theorem stR_in {sm : List Int} {j : Nat} {x : Int} (h : sm[j]? = some x) : stR sm j = (x, 0) := by
  have := (List.getElem?_eq_some_iff.1 h).1
  rw [stR, if_neg (by omega), Int.toNat_natCast, h]; rfl
/-- What a call does to states and run set: the error, the states, the run set. -/
def stepR (sm qm : List Int) (fr to i : Int) : Int × List Int × List Int :=
  if i < 0 ∨ (sm.length : Int) ≤ i then (2, sm, qm)
  else if sm[i.toNat]? = some fr then (0, sm.set i.toNat to, qm.filter (fun v => decide (v ≠ i)) ++ (if to = 1 then [i] else []))
  else (8, sm, qm)
theorem stepR_out {sm qm : List Int} {fr to i : Int} (h : i < 0 ∨ (sm.length : Int) ≤ i) : stepR sm qm fr to i = (2, sm, qm) := if_pos h
theorem stepR_bad {sm qm : List Int} {fr to x : Int} {j : Nat} (h : sm[j]? = some x) (hx : x ≠ fr) : stepR sm qm fr to j = (8, sm, qm) := by
  have := (List.getElem?_eq_some_iff.1 h).1
  rw [stepR, if_neg (by omega), Int.toNat_natCast, h, if_neg (fun e => hx (Option.some.inj e))]
theorem stepR_ok {sm qm : List Int} {fr to : Int} {j : Nat} (h : sm[j]? = some fr) : stepR sm qm fr to j = (0, sm.set j to, qm.filter (fun v => decide (v ≠ (j : Int))) ++ (if to = 1 then [(j : Int)] else [])) := by
  have := (List.getElem?_eq_some_iff.1 h).1
  rw [stepR, if_neg (by omega), Int.toNat_natCast, h, if_pos rfl]
theorem stepR_len (sm qm : List Int) (fr to i : Int) : (stepR sm qm fr to i).2.1.length = sm.length := by
  unfold stepR
  split
  · rfl
  · split
    · exact List.length_set
    · rfl
end Go.Proofs.YtbkdebnkoidicaaGreat
end
section
set_option linter.unusedVariables false
set_option maxRecDepth 20000
set_option maxHeartbeats 1000000
namespace Go.Proofs.YtbkdebnkoidicaaGreat
theorem doq_step {S S' : List (Int × Nat)} {Q Q' : List (Nat × Int)} {n n' : Nat} {i fr to e : Int} {sm qm : List Int} {es es' : Array MapEntry} (hw : Tw sm qm S Q n es) (hM : Mp (.int .u64) ekQ evQ es' (nds 0 0 Q')) (h : DoQ S Q n fr to i e S' Q' n') :
    e = (stepR sm qm fr to i).1 ∧ Tw (stepR sm qm fr to i).2.1 (stepR sm qm fr to i).2.2 S' Q' n' es' ∧ n' ≤ n + 1 := by
  have hl : sm.length = S.length := by rw [← hw.sm, List.length_map]
  by_cases hr : i < 0 ∨ (sm.length : Int) ≤ i
  · rw [stepR_out hr]
    obtain ⟨h1, h2, h3, h4⟩ := h
    rcases h4 with ⟨_, rfl, rfl, rfl⟩ | ⟨j, x, t, hj, hS, h4⟩
    · exact ⟨rfl, ⟨h3, hM, hw.sm, hw.qm⟩, h1⟩
    · have := (List.getElem?_eq_some_iff.1 hS).1
      omega
  · obtain ⟨i, rfl⟩ := Int.eq_ofNat_of_zero_le (show 0 ≤ i by omega)
    obtain ⟨x, hx⟩ := exE (T := sm) (i := i) (by omega)
    by_cases hf : x = fr
    · subst hf
      rw [stepR_ok hx]
      exact doq_run hw hM h hx
    · rw [stepR_bad hx hf]
      exact doq_bad hw hM h hx hf
theorem state_R (p pe pq pm : Nat) (S : List (Int × Nat)) (c : Nat) (tl : List Value) (Q : List (Nat × Int)) (n : Nat) (es : Array MapEntry) (mc : Nat) (sm qm : List Int) (hw : Tw sm qm S Q n es) (i : Int) : Spec Tryz.prog 118 [ptrQ p, .int .i64 i] (tR p pe pq S c tl) (fun r H' => r = .tuple #[.int .i64 (stR sm i).1, .int .i64 (stR sm i).2] ∧ H' = tR p pe pq S c tl) := by
  by_cases hr : i < 0 ∨ (sm.length : Int) ≤ i
  · rw [stR_out hr]; exact state_out p pe pq pm S c tl Q n es mc sm qm hw i hr
  · obtain ⟨i, rfl⟩ := Int.eq_ofNat_of_zero_le (show 0 ≤ i by omega)
    obtain ⟨x, hx⟩ := exE (T := sm) (i := i) (by omega)
    rw [stR_in hx]; exact state_run p pe pq pm S c tl Q n es mc sm qm hw i x hx
theorem start_step (p pe pq pm : Nat) (S : List (Int × Nat)) (c : Nat) (tl : List Value) (Q : List (Nat × Int)) (n : Nat) (es : Array MapEntry) (mc : Nat) (sm qm : List Int) (hw : Tw sm qm S Q n es) (hn : n < 1000000) (i : Int) : Spec Tryz.prog 92 [ptrQ p, .int .i64 i] (tH p pe pq pm S c tl Q n es mc) (fun r H' => ∃ S' Q' n' es' mc' tl', r = .int .i64 (stepR sm qm 0 1 i).1 ∧ H' = tH p pe pq pm S' c tl' Q' n' es' mc' ∧ Tw (stepR sm qm 0 1 i).2.1 (stepR sm qm 0 1 i).2.2 S' Q' n' es' ∧ n' ≤ n + 1) :=
  (start_ok p pe pq pm S c tl Q n es mc hw.tk hw.mp hn i).mono fun r H' ⟨e, S', Q', n', es', mc', tl', h4, h5, h6, h7⟩ => by
    obtain ⟨rfl, h8, h9⟩ := doq_step hw h6 h7
    exact ⟨S', Q', n', es', mc', tl', h4, h5, h8, h9⟩
theorem park_step (p pe pq pm : Nat) (S : List (Int × Nat)) (c : Nat) (tl : List Value) (Q : List (Nat × Int)) (n : Nat) (es : Array MapEntry) (mc : Nat) (sm qm : List Int) (hw : Tw sm qm S Q n es) (hn : n < 1000000) (i : Int) : Spec Tryz.prog 96 [ptrQ p, .int .i64 i] (tH p pe pq pm S c tl Q n es mc) (fun r H' => ∃ S' Q' n' es' mc' tl', r = .int .i64 (stepR sm qm 1 2 i).1 ∧ H' = tH p pe pq pm S' c tl' Q' n' es' mc' ∧ Tw (stepR sm qm 1 2 i).2.1 (stepR sm qm 1 2 i).2.2 S' Q' n' es' ∧ n' ≤ n + 1) :=
  (park_ok p pe pq pm S c tl Q n es mc hw.tk hw.mp hn i).mono fun r H' ⟨e, S', Q', n', es', mc', tl', h4, h5, h6, h7⟩ => by
    obtain ⟨rfl, h8, h9⟩ := doq_step hw h6 h7
    exact ⟨S', Q', n', es', mc', tl', h4, h5, h8, h9⟩
theorem wake_step (p pe pq pm : Nat) (S : List (Int × Nat)) (c : Nat) (tl : List Value) (Q : List (Nat × Int)) (n : Nat) (es : Array MapEntry) (mc : Nat) (sm qm : List Int) (hw : Tw sm qm S Q n es) (hn : n < 1000000) (i : Int) : Spec Tryz.prog 161 [ptrQ p, .int .i64 i] (tH p pe pq pm S c tl Q n es mc) (fun r H' => ∃ S' Q' n' es' mc' tl', r = .int .i64 (stepR sm qm 2 1 i).1 ∧ H' = tH p pe pq pm S' c tl' Q' n' es' mc' ∧ Tw (stepR sm qm 2 1 i).2.1 (stepR sm qm 2 1 i).2.2 S' Q' n' es' ∧ n' ≤ n + 1) :=
  (wake_ok p pe pq pm S c tl Q n es mc hw.tk hw.mp hn i).mono fun r H' ⟨e, S', Q', n', es', mc', tl', h4, h5, h6, h7⟩ => by
    obtain ⟨rfl, h8, h9⟩ := doq_step hw h6 h7
    exact ⟨S', Q', n', es', mc', tl', h4, h5, h8, h9⟩
end Go.Proofs.YtbkdebnkoidicaaGreat
end
section
set_option linter.unusedVariables false
set_option maxRecDepth 20000
set_option maxHeartbeats 1000000
namespace Go.Proofs.YtbkdebnkoidicaaGreat
/-- A table of tasks in memory, ars one record. -/
structure TkM where
  p : Nat
  pe : Nat
  pq : Nat
  pm : Nat
  S : List (Int × Nat)
  c : Nat
  tl : List Value
  Q : List (Nat × Int)
  n : Nat
  es : Array MapEntry
  mc : Nat
abbrev tkH (t : TkM) : Heap := tH t.p t.pe t.pq t.pm t.S t.c t.tl t.Q t.n t.es t.mc
abbrev TkIs (sm qm : List Int) (t : TkM) : Prop := Tw sm qm t.S t.Q t.n t.es
theorem TkIs.sl {sm qm : List Int} {t : TkM} (h : TkIs sm qm t) : t.S.length = sm.length := by rw [← h.sm, List.length_map]
theorem TkIs.len {sm qm : List Int} {t : TkM} (h : TkIs sm qm t) : 1 ≤ sm.length ∧ sm.length ≤ 64 := by rw [← h.sl]; exact h.tk.len
theorem tk_new (m : Nat) (h1 : 1 ≤ m) (h2 : m ≤ 64) : Spec Tryz.prog 84 [.int .i64 (m : Int)] [] (fun r H' => ∃ t : TkM, r = .tuple #[ptrQ t.p, .int .i64 0] ∧ H' = tkH t ∧ t.n = 0 ∧ TkIs (List.replicate m 0) [] t) :=
  (tnew_ok m h1 h2).mono fun r H' ⟨p, pe, pq, pm, e1, e2⟩ => ⟨⟨p, pe, pq, pm, idle m, m, [], [], 0, #[], 0⟩, e1, e2, rfl, tw_idle h1 h2⟩
theorem tk_state (t : TkM) (sm qm : List Int) (hw : TkIs sm qm t) (i : Int) : Spec Tryz.prog 118 [ptrQ t.p, .int .i64 i] (tkH t) (fun r H' => r = .tuple #[.int .i64 (stR sm i).1, .int .i64 (stR sm i).2] ∧ H' = tkH t) :=
  ((state_R t.p t.pe t.pq t.pm t.S t.c t.tl t.Q t.n t.es t.mc sm qm hw i).fr (qH t.pq t.pm t.Q t.n t.es t.mc)).mono fun r H' ⟨H1, ⟨e1, e2⟩, e3⟩ => ⟨e1, by rw [e3, e2]⟩
theorem tk_ready (t : TkM) (sm qm : List Int) (hw : TkIs sm qm t) : Spec Tryz.prog 112 [ptrQ t.p] (tkH t) (fun r H' => ∃ ob c' tl', r = slV ob qm.length c' ∧ Own ob qm.length c' 1 (ivs qm) tl' ∧ H' = ⟨ob, cl (ivs qm ++ tl') 3⟩ :: (tkH t)) :=
  ready_run t.p t.pe t.pq t.pm t.S t.c t.tl t.Q t.n t.es t.mc sm qm hw
theorem tk_start (t : TkM) (sm qm : List Int) (hw : TkIs sm qm t) (hn : t.n < 1000000) (i : Int) : Spec Tryz.prog 92 [ptrQ t.p, .int .i64 i] (tkH t) (fun r H' => ∃ t' : TkM, r = .int .i64 (stepR sm qm 0 1 i).1 ∧ H' = tkH t' ∧ t'.p = t.p ∧ t'.n ≤ t.n + 1 ∧ TkIs (stepR sm qm 0 1 i).2.1 (stepR sm qm 0 1 i).2.2 t') :=
  (start_step t.p t.pe t.pq t.pm t.S t.c t.tl t.Q t.n t.es t.mc sm qm hw hn i).mono fun r H' ⟨S', Q', n', es', mc', tl', e1, e2, e3, e4⟩ => ⟨⟨t.p, t.pe, t.pq, t.pm, S', t.c, tl', Q', n', es', mc'⟩, e1, e2, rfl, e4, e3⟩
theorem tk_park (t : TkM) (sm qm : List Int) (hw : TkIs sm qm t) (hn : t.n < 1000000) (i : Int) : Spec Tryz.prog 96 [ptrQ t.p, .int .i64 i] (tkH t) (fun r H' => ∃ t' : TkM, r = .int .i64 (stepR sm qm 1 2 i).1 ∧ H' = tkH t' ∧ t'.p = t.p ∧ t'.n ≤ t.n + 1 ∧ TkIs (stepR sm qm 1 2 i).2.1 (stepR sm qm 1 2 i).2.2 t') :=
  (park_step t.p t.pe t.pq t.pm t.S t.c t.tl t.Q t.n t.es t.mc sm qm hw hn i).mono fun r H' ⟨S', Q', n', es', mc', tl', e1, e2, e3, e4⟩ => ⟨⟨t.p, t.pe, t.pq, t.pm, S', t.c, tl', Q', n', es', mc'⟩, e1, e2, rfl, e4, e3⟩
theorem tk_wake (t : TkM) (sm qm : List Int) (hw : TkIs sm qm t) (hn : t.n < 1000000) (i : Int) : Spec Tryz.prog 161 [ptrQ t.p, .int .i64 i] (tkH t) (fun r H' => ∃ t' : TkM, r = .int .i64 (stepR sm qm 2 1 i).1 ∧ H' = tkH t' ∧ t'.p = t.p ∧ t'.n ≤ t.n + 1 ∧ TkIs (stepR sm qm 2 1 i).2.1 (stepR sm qm 2 1 i).2.2 t') :=
  (wake_step t.p t.pe t.pq t.pm t.S t.c t.tl t.Q t.n t.es t.mc sm qm hw hn i).mono fun r H' ⟨S', Q', n', es', mc', tl', e1, e2, e3, e4⟩ => ⟨⟨t.p, t.pe, t.pq, t.pm, S', t.c, tl', Q', n', es', mc'⟩, e1, e2, rfl, e4, e3⟩
end Go.Proofs.YtbkdebnkoidicaaGreat
end
section
set_option linter.unusedVariables false
set_option maxRecDepth 20000
namespace Go.Proofs.YtbkdebnkoidicaaGreat
abbrev Sp := Int × Int
structure Wt where
  i : Nat
  at_ : Sp
/-- Who waits at a spot, in order. -/
def wAt (W : List Wt) (s : Sp) : List Int := (W.filter (fun w => decide (w.at_ = s))).map (fun w => (w.i : Int))
def wOut (W : List Wt) (i : Int) : List Wt := W.filter (fun w => decide ((w.i : Int) ≠ i))
/-- The states, the run set, and who is parked, in order. -/
structure PS where
  sm : List Int
  qm : List Int
  W : List Wt
def vldS (s : Sp) : Prop := 0 ≤ s.1 ∧ s.1 < 128 ∧ (s.2 = 0 ∨ s.2 = 1)
instance (s : Sp) : Decidable (vldS s) := inferInstanceAs (Decidable (_ ∧ _ ∧ (_ ∨ _)))
def PS.step (s : PS) (fr to i : Int) : PS := ⟨(stepR s.sm s.qm fr to i).2.1, (stepR s.sm s.qm fr to i).2.2, s.W⟩
def PS.out (s : PS) (i : Int) : PS := ⟨(stepR s.sm s.qm 2 1 i).2.1, (stepR s.sm s.qm 2 1 i).2.2, wOut s.W i⟩
def PS.add (s : PS) (i : Nat) (at_ : Sp) : PS := ⟨(stepR s.sm s.qm 1 2 i).2.1, (stepR s.sm s.qm 1 2 i).2.2, s.W ++ [⟨i, at_⟩]⟩
def PS.parkE (s : PS) (i : Int) (at_ : Sp) : Int := if (stR s.sm i).2 ≠ 0 then (stR s.sm i).2 else if vldS at_ then (if (stR s.sm i).1 = 1 then 0 else 8) else 2
def PS.park (s : PS) (i : Int) (at_ : Sp) : PS := if s.parkE i at_ = 0 then s.add i.toNat at_ else s
def PS.whr (s : PS) (i : Int) : Sp × Int := if (stR s.sm i).2 ≠ 0 then ((0, 0), (stR s.sm i).2) else match s.W.find? (fun w => decide ((w.i : Int) = i)) with
  | some w => (w.at_, 0)
  | none => ((0, 0), 8)
def PS.waiting (s : PS) (at_ : Sp) : List Int := if vldS at_ then wAt s.W at_ else []
def spE (at_ : Sp) : Int := if vldS at_ then 0 else 2
def PS.wakeAll (s : PS) (at_ : Sp) : PS := (s.waiting at_).foldl PS.out s
def PS.wakeR (s : PS) (at_ : Sp) : Int × Int := if vldS at_ then (match wAt s.W at_ with
  | [] => (0, 9)
  | v :: _ => (v, 0)) else (0, 2)
def PS.wake (s : PS) (at_ : Sp) : PS := if (s.wakeR at_).2 = 0 then s.out (s.wakeR at_).1 else s
/-- Who is parked is known just by the states. -/
structure PsOk (s : PS) : Prop where
  prk : ∀ i : Nat, s.sm[i]? = some 2 ↔ ∃ w ∈ s.W, w.i = i
  nd : (s.W.map (·.i)).Nodup
  len : s.sm.length ≤ 64
  vld : ∀ w ∈ s.W, vldS w.at_
theorem PsOk.new {m : Nat} (h : m ≤ 64) : PsOk ⟨List.replicate m 0, [], []⟩ := by
  refine ⟨fun i => ⟨fun h2 => ?_, fun ⟨w, hw, _⟩ => by cases hw⟩, .nil, by rw [List.length_replicate]; exact h, fun w hw => by cases hw⟩
  have := List.eq_of_mem_replicate (List.mem_of_getElem? h2)
  cases this
theorem stR_some {sm : List Int} {i : Int} (h : (stR sm i).2 = 0) : ∃ (j : Nat) (x : Int), i = (j : Int) ∧ sm[j]? = some x ∧ (stR sm i).1 = x := by
  by_cases hr : i < 0 ∨ (sm.length : Int) ≤ i
  · rw [stR_out hr] at h; cases h
  · obtain ⟨j, rfl⟩ := Int.eq_ofNat_of_zero_le (show 0 ≤ i by omega)
    obtain ⟨x, hx⟩ := exE (T := sm) (i := j) (by omega)
    exact ⟨j, x, rfl, hx, by rw [stR_in hx]⟩
theorem wOut_mem {W : List Wt} {i : Int} {w : Wt} : w ∈ wOut W i ↔ w ∈ W ∧ (w.i : Int) ≠ i := by
  unfold wOut; rw [List.mem_filter, decide_eq_true_eq]
theorem wAt_out (W : List Wt) (i : Int) (s : Sp) : wAt (wOut W i) s = (wAt W s).filter (fun v => decide (v ≠ i)) := by
  unfold wAt wOut
  rw [List.filter_map, List.filter_filter, List.filter_filter]
  congr 1
  refine List.filter_congr fun w _ => ?_
  rw [Bool.and_comm]; rfl
theorem wAt_snoc (W : List Wt) (i : Nat) (a s : Sp) : wAt (W ++ [⟨i, a⟩]) s = wAt W s ++ (if a = s then [(i : Int)] else []) := by
  unfold wAt
  rw [List.filter_append, List.map_append]
  by_cases h : a = s <;> simp [h]
theorem wAt_mem {W : List Wt} {s : Sp} {v : Int} : v ∈ wAt W s ↔ ∃ w ∈ W, w.at_ = s ∧ (w.i : Int) = v := by
  unfold wAt
  rw [List.mem_map]
  constructor
  · rintro ⟨w, hw, e⟩
    obtain ⟨h1, h2⟩ := List.mem_filter.1 hw
    exact ⟨w, h1, of_decide_eq_true h2, e⟩
  · rintro ⟨w, hw, h, e⟩
    exact ⟨w, List.mem_filter.2 ⟨hw, decide_eq_true h⟩, e⟩
theorem wAt_nodup {W : List Wt} (h : (W.map (·.i)).Nodup) (s : Sp) : (wAt W s).Nodup := by
  unfold wAt
  rw [List.Nodup, List.pairwise_map]
  rw [List.Nodup, List.pairwise_map] at h
  exact (h.filter _).imp fun hne e => hne (by omega)
theorem wt_one {W : List Wt} (h : (W.map (·.i)).Nodup) {a b : Wt} (ha : a ∈ W) (hb : b ∈ W) (e : a.i = b.i) : a = b := by
  obtain ⟨i, hi, rfl⟩ := List.mem_iff_getElem.1 ha
  obtain ⟨j, hj, rfl⟩ := List.mem_iff_getElem.1 hb
  rw [List.Nodup, List.pairwise_map, List.pairwise_iff_getElem] at h
  rcases Nat.lt_trichotomy i j with q | q | q
  · exact absurd e (h i j hi hj q)
  · subst q; rfl
  · exact absurd e.symm (h j i hj hi q)
section
variable {s : PS}
theorem PsOk.find (h : PsOk s) {w : Wt} (hw : w ∈ s.W) : s.W.find? (fun u => decide ((u.i : Int) = (w.i : Int))) = some w := by
  cases hf : s.W.find? (fun u => decide ((u.i : Int) = (w.i : Int))) with
  | none =>
    have := List.find?_eq_none.1 hf w hw
    simp at this
  | some u =>
    have h1 := List.find?_some hf
    have h2 := List.mem_of_find?_eq_some hf
    rw [wt_one h.nd h2 hw (by simp at h1; omega)]
theorem PsOk.whr_out (h : PsOk s) {i : Int} (hr : i < 0 ∨ (s.sm.length : Int) ≤ i) : s.whr i = ((0, 0), 2) := by
  unfold PS.whr; rw [stR_out hr, if_pos (by decide)]
theorem PsOk.whr_no (h : PsOk s) {j : Nat} {x : Int} (hj : s.sm[j]? = some x) (hx : x ≠ 2) : s.whr j = ((0, 0), 8) := by
  unfold PS.whr
  rw [stR_in hj, if_neg (by simp)]
  have : s.W.find? (fun w => decide ((w.i : Int) = (j : Int))) = none := by
    rw [List.find?_eq_none]
    intro w hw
    simp only [decide_eq_true_eq]
    intro e
    have := (h.prk j).2 ⟨w, hw, by omega⟩
    rw [hj] at this
    exact hx (Option.some.inj this)
  rw [this]
theorem PsOk.whr_yes (h : PsOk s) {w : Wt} (hw : w ∈ s.W) : s.whr w.i = (w.at_, 0) := by
  have hj := (h.prk w.i).2 ⟨w, hw, rfl⟩
  unfold PS.whr
  rw [stR_in hj, if_neg (by simp), h.find hw]
theorem PsOk.step_ (h : PsOk s) (fr to i : Int) (hf : fr ≠ 2) (ht : to ≠ 2) : PsOk (s.step fr to i) := by
  unfold PS.step
  by_cases hr : i < 0 ∨ (s.sm.length : Int) ≤ i
  · rw [stepR_out hr]; exact h
  · obtain ⟨j, rfl⟩ := Int.eq_ofNat_of_zero_le (show 0 ≤ i by omega)
    obtain ⟨x, hx⟩ := exE (T := s.sm) (i := j) (by omega)
    by_cases e : x = fr
    · subst e
      rw [stepR_ok hx]
      refine ⟨fun k => ?_, h.nd, by dsimp only; rw [List.length_set]; exact h.len, h.vld⟩
      dsimp only
      rw [List.getElem?_set, ← h.prk k]
      by_cases q : j = k
      · subst q
        rw [if_pos rfl, if_pos (List.getElem?_eq_some_iff.1 hx).1, hx]
        simp [hf, ht]
      · rw [if_neg q]
    · rw [stepR_bad hx e]; exact h
theorem PsOk.add_ (h : PsOk s) {i : Nat} {at_ : Sp} (hi : s.sm[i]? = some 1) (ha : vldS at_) : PsOk (s.add i at_) := by
  unfold PS.add
  rw [stepR_ok hi]
  have hno : ∀ w ∈ s.W, w.i ≠ i := fun w hw e => by
    have := (h.prk i).2 ⟨w, hw, e⟩
    rw [hi] at this; cases this
  refine ⟨fun k => ?_, ?_, by dsimp only; rw [List.length_set]; exact h.len, fun w hw => ?_⟩
  · dsimp only
    rw [List.getElem?_set]
    by_cases q : i = k
    · subst q
      rw [if_pos rfl, if_pos (List.getElem?_eq_some_iff.1 hi).1]
      exact ⟨fun _ => ⟨⟨i, at_⟩, List.mem_append_right _ (List.mem_singleton.2 rfl), rfl⟩, fun _ => rfl⟩
    · rw [if_neg q, h.prk k]
      constructor
      · rintro ⟨w, hw, e⟩; exact ⟨w, List.mem_append_left _ hw, e⟩
      · rintro ⟨w, hw, e⟩
        rcases List.mem_append.1 hw with hw | hw
        · exact ⟨w, hw, e⟩
        · rw [List.mem_singleton] at hw; subst hw; exact absurd e q
  · dsimp only
    rw [List.map_append, List.nodup_append]
    refine ⟨h.nd, by simp, fun x hx y hy => ?_⟩
    obtain ⟨w, hw, rfl⟩ := List.mem_map.1 hx
    have := hno w hw
    simp at hy
    omega
  · rcases List.mem_append.1 hw with hw | hw
    · exact h.vld w hw
    · rw [List.mem_singleton] at hw; subst hw; exact ha
theorem PsOk.out_ (h : PsOk s) {w : Wt} (hw : w ∈ s.W) : PsOk (s.out w.i) := by
  have hi := (h.prk w.i).2 ⟨w, hw, rfl⟩
  unfold PS.out
  rw [stepR_ok hi]
  refine ⟨fun k => ?_, ?_, by dsimp only; rw [List.length_set]; exact h.len, fun u hu => h.vld u (wOut_mem.1 hu).1⟩
  · dsimp only
    rw [List.getElem?_set]
    by_cases q : w.i = k
    · subst q
      rw [if_pos rfl, if_pos (List.getElem?_eq_some_iff.1 hi).1]
      constructor
      · intro e; cases e
      · rintro ⟨u, hu, e⟩
        exact absurd (by omega) (wOut_mem.1 hu).2
    · rw [if_neg q, h.prk k]
      constructor
      · rintro ⟨u, hu, e⟩; exact ⟨u, wOut_mem.2 ⟨hu, by omega⟩, e⟩
      · rintro ⟨u, hu, e⟩; exact ⟨u, (wOut_mem.1 hu).1, e⟩
  · exact h.nd.sublist ((List.filter_sublist (l := s.W)).map _)
theorem PsOk.few (h : PsOk s) : s.W.length ≤ 64 := by
  have h2 := pigeon (s.W.map (·.i)) (List.range s.sm.length) h.nd (fun k hk => by
    obtain ⟨w, hw, rfl⟩ := List.mem_map.1 hk
    exact List.mem_range.2 (List.getElem?_eq_some_iff.1 ((h.prk w.i).2 ⟨w, hw, rfl⟩)).1)
  rw [List.length_map, List.length_range] at h2
  have := h.len
  omega
theorem wAt_len (W : List Wt) (s : Sp) : (wAt W s).length ≤ W.length := by
  unfold wAt; rw [List.length_map]; exact List.length_filter_le _ _
theorem PsOk.parked (h : PsOk s) {at_ : Sp} {v : Int} (hv : v ∈ wAt s.W at_) : ∃ w ∈ s.W, w.at_ = at_ ∧ (w.i : Int) = v := wAt_mem.1 hv
theorem park_ok' (h : PsOk s) {i : Nat} {at_ : Sp} (hi : s.sm[i]? = some 1) (ha : vldS at_) : s.parkE i at_ = 0 ∧ s.park i at_ = s.add i at_ := by
  have e : s.parkE i at_ = 0 := by unfold PS.parkE; rw [stR_in hi, if_neg (by simp), if_pos ha, if_pos rfl]
  exact ⟨e, by unfold PS.park; rw [if_pos e, Int.toNat_natCast]⟩
theorem park_no (s : PS) {i : Int} {at_ : Sp} (h : s.parkE i at_ ≠ 0) : s.park i at_ = s := by unfold PS.park; rw [if_neg h]
theorem whr_some (h : PsOk s) {i : Int} (hz : (s.whr i).2 = 0) : ∃ w ∈ s.W, i = (w.i : Int) ∧ s.whr i = (w.at_, 0) := by
  by_cases hr : i < 0 ∨ (s.sm.length : Int) ≤ i
  · rw [h.whr_out hr] at hz; cases hz
  · obtain ⟨j, rfl⟩ := Int.eq_ofNat_of_zero_le (show 0 ≤ i by omega)
    obtain ⟨x, hx⟩ := exE (T := s.sm) (i := j) (by omega)
    by_cases e : x = 2
    · subst e
      obtain ⟨w, hw, rfl⟩ := (h.prk j).1 hx
      exact ⟨w, hw, rfl, h.whr_yes hw⟩
    · rw [h.whr_no hx e] at hz; cases hz
/-- All of a spot are woken, one after the other. -/
theorem wakes_ok (h : PsOk s) (at_ : Sp) : ∀ (k : Nat), k ≤ (wAt s.W at_).length → PsOk (((wAt s.W at_).take k).foldl PS.out s) ∧ wAt (((wAt s.W at_).take k).foldl PS.out s).W at_ = (wAt s.W at_).drop k ∧ (((wAt s.W at_).take k).foldl PS.out s).sm.length = s.sm.length := by
  intro k
  induction k with
  | zero => intro _; rw [List.take_zero, List.foldl_nil, List.drop_zero]; exact ⟨h, rfl, rfl⟩
  | succ k ih =>
    intro hk
    obtain ⟨h1, h2, h3⟩ := ih (by omega)
    obtain ⟨v, hv⟩ := exE (T := wAt s.W at_) (i := k) (by omega)
    have hd : (wAt s.W at_).drop k = v :: (wAt s.W at_).drop (k + 1) := by
      obtain ⟨hl, rfl⟩ := List.getElem?_eq_some_iff.1 hv
      exact List.drop_eq_getElem_cons hl
    rw [take_get hv, List.foldl_append, List.foldl_cons, List.foldl_nil]
    rw [hd] at h2
    obtain ⟨w, hw, ha, rfl⟩ := wAt_mem.1 (show v ∈ wAt (((wAt s.W at_).take k).foldl PS.out s).W at_ by rw [h2]; exact List.mem_cons_self ..)
    refine ⟨h1.out_ hw, ?_, ?_⟩
    · show wAt (wOut _ _) at_ = _
      rw [wAt_out, h2]
      have hnd : ((w.i : Int) :: (wAt s.W at_).drop (k + 1)).Nodup := by rw [← h2]; exact wAt_nodup h1.nd at_
      rw [List.nodup_cons] at hnd
      rw [List.filter_cons_of_neg (by simp)]
      exact List.filter_eq_self.2 fun x hx => decide_eq_true fun e => hnd.1 (e ▸ hx)
    · show (stepR _ _ _ _ _).2.1.length = _
      rw [stepR_len, h3]
end
end Go.Proofs.YtbkdebnkoidicaaGreat
end
section
set_option linter.unusedVariables false
set_option maxRecDepth 20000
namespace Go.Proofs.YtbkdebnkoidicaaGreat
abbrev ekS (s : Int × Int) : Value := .agg #[.int .i64 s.1, .int .i64 s.2]
theorem ekS_inj (a b : Int × Int) (h : ekS a = ekS b) : a = b := by
  simp only [ekS, Value.agg.injEq, Array.mk.injEq, List.cons.injEq, Value.int.injEq] at h
  exact Prod.ext h.1.2 h.2.1.2
theorem spot_equal (a b : Int × Int) (w : World) : (Op.equal 108 (ekS a) (ekS b)).run Tryz.prog w = .ok (decide (a = b)) w := by
  have h := eqin108_10000 a.1 b.1 a.2 b.2 w
  have e : decide (a = b) = decide (a.1 = b.1 ∧ a.2 = b.2) := decide_eq_decide.2 Prod.ext_iff
  rw [e]; exact h
theorem spot_ask (k : Int × Int) : ∀ (l : List MapEntry) (i : Nat) (w : World), (∀ x ∈ l, ∃ k', x.key = ekS k') → ∃ r, (Instr.findAsking 108 (ekS k) l i).run Tryz.prog w = .ok r w ∧ ((r = none ∧ ∀ x ∈ l, x.key ≠ ekS k) ∨ ∃ (j : Nat) (e : MapEntry), r = some (i + j, e.val) ∧ l[j]? = some e ∧ e.key = ekS k)
  | [], i, w, _ => ⟨none, rfl, .inl ⟨rfl, fun x hx => by cases hx⟩⟩
  | e :: l, i, w, h => by
    obtain ⟨k', hk⟩ := h e (List.mem_cons_self ..)
    have h1 := spot_equal k k' w
    by_cases q : k = k'
    · subst q
      rw [decide_eq_true rfl] at h1
      exact ⟨some (i, e.val), by simp [Instr.findAsking, hk, h1, Result.andThen], .inr ⟨0, e, rfl, rfl, hk⟩⟩
    · rw [decide_eq_false q] at h1
      obtain ⟨r, h2, h3⟩ := spot_ask k l (i + 1) w (fun x hx => h x (List.mem_cons_of_mem _ hx))
      refine ⟨r, by simp [Instr.findAsking, hk, h1, h2, Result.andThen], ?_⟩
      rcases h3 with ⟨rfl, h3⟩ | ⟨j, e2, rfl, h4, h5⟩
      · refine .inl ⟨rfl, fun x hx => ?_⟩
        rcases List.mem_cons.1 hx with rfl | hx
        · rw [hk]; exact fun e9 => q (ekS_inj _ _ e9).symm
        · exact h3 x hx
      · exact .inr ⟨j + 1, e2, by rw [show i + (j + 1) = i + 1 + j from by omega], h4, h5⟩
theorem spot_chk (em : Bool) (n : Nat) (k : Int × Int) (w : World) : (Instr.checkKey em (n + 2) 108 (ekS k)).run Tryz.prog w = .ok () w := by
  have h1 : (Instr.checkKey em (n + 1) 3 (.int .i64 k.1)).run Tryz.prog w = .ok () w := MapKept.run_checkKey Tryz.underlying3 (show MapKept.IsKey (.int .i64) (.int .i64 k.1) from rfl) em n
  have h2 : (Instr.checkKey em (n + 1) 44 (.int .i64 k.2)).run Tryz.prog w = .ok () w := MapKept.run_checkKey Tryz.underlying44 (show MapKept.IsKey (.int .i64) (.int .i64 k.2) from rfl) em n
  rw [Instr.checkKey]
  simp only [Sem.run_bind, run_underlying Tryz.underlying108, Result.andThen_ok]
  rw [← Array.forIn_toList]
  simp [part, Tryz.isAgg3, Tryz.isAgg44, Result.andThen, h1, h2]
theorem spot_key : KeyOk Tryz.prog 108 ekS := by
  refine ⟨fun em k w => spot_chk em 9998 k w, fun k l w h => ?_, ekS_inj⟩
  · obtain ⟨r, h1, h2⟩ := spot_ask k l 0 w h
    refine ⟨r, ?_, ?_⟩
    · cases l with
      | nil =>
        simp [Instr.findKey, run_underlying Tryz.underlying108, Instr.findNow, Result.andThen]
        rcases h2 with ⟨rfl, _⟩ | ⟨j, e, _, h4, _⟩
        · rfl
        · cases h4
      | cons e l =>
        obtain ⟨k', hk⟩ := h e (List.mem_cons_self ..)
        simp [Instr.findKey, run_underlying Tryz.underlying108, Instr.findNow, hk, Instr.sameNow, Result.andThen, h1]
    · rcases h2 with h2 | ⟨j, e, h3, h4⟩
      · exact .inl h2
      · exact .inr ⟨j, e, by rw [h3, Nat.zero_add], h4⟩
end Go.Proofs.YtbkdebnkoidicaaGreat
end
section
set_option linter.unusedVariables false
set_option maxRecDepth 20000
namespace Go.Proofs.YtbkdebnkoidicaaGreat
structure QM where
  p : Nat
  mb : Nat
  l : List (Nat × Int)
  n : Nat
  es : Array MapEntry
  mc : Nat
abbrev qmH (q : QM) : Heap := qH q.p q.mb q.l q.n q.es q.mc
abbrev evP (q : QM) : Value := ptrQ q.p
def qsH : List (Sp × QM) → Heap
  | [] => []
  | x :: R => qmH x.2 ++ qsH R
theorem qsH_perm {A B : List (Sp × QM)} (h : A.Perm B) : (qsH A).Perm (qsH B) := by
  induction h with
  | nil => exact .refl _
  | cons x _ ih => exact List.Perm.append_left _ ih
  | swap x y l =>
    show (qmH y.2 ++ (qmH x.2 ++ qsH l)).Perm (qmH x.2 ++ (qmH y.2 ++ qsH l))
    rw [← List.append_assoc, ← List.append_assoc]
    exact List.Perm.append_right _ List.perm_append_comm
  | trans _ _ a b => exact a.trans b
abbrev encSeat (x : Sp × Nat) : List Value := [.int .i64 x.1.1, .int .i64 x.1.2, .int .u64 (x.2 : Int)]
theorem encSeat3 (x : Sp × Nat) : (encSeat x).length = 3 := rfl
structure PkM where
  p : Nat
  bs : Nat
  mb : Nat
  t : TkM
  seats : List (Sp × Nat)
  cs : Nat
  ts : List Value
  mes : Array MapEntry
  mc : Nat
  QL : List (Sp × QM)
abbrev pkR (p bs mb pt : Nat) (seats : List (Sp × Nat)) (cs : Nat) (ts : List Value) (mes : Array MapEntry) (mc : Nat) : Heap := [⟨some p, cl [ptrQ pt, .slice (some ⟨bs, 0, none⟩) seats.length cs, .map (some mb)] 154⟩, ⟨some bs, cl (seats.flatMap encSeat ++ ts) 182⟩, ⟨some mb, .map mes mc⟩]
abbrev pkH (l : PkM) : Heap := pkR l.p l.bs l.mb l.t.p l.seats l.cs l.ts l.mes l.mc ++ (tkH l.t ++ qsH l.QL)
theorem pkH_perm (l : PkM) {B : List (Sp × QM)} (h : l.QL.Perm B) : (pkH l).Perm (pkH { l with QL := B }) := List.Perm.append_left _ (List.Perm.append_left _ (qsH_perm h))
structure QOk (N : Nat) (q : QM) : Prop where
  qk : Qk q.l q.n
  mp : Mp (.int .u64) ekQ evQ q.es (nds 0 0 q.l)
  n : q.n ≤ N
structure PkIs (N : Nat) (s : PS) (l : PkM) : Prop where
  ps : PsOk s
  tk : TkIs s.sm s.qm l.t
  tn : l.t.n ≤ N
  ln : l.seats.length = s.sm.length
  mpk : Mk ekS evP l.mes l.mc l.QL
  q : ∀ x ∈ l.QL, QOk N x.2 ∧ x.2.l.map (·.2) = wAt s.W x.1
  seat : ∀ w ∈ s.W, ∃ t q, l.seats[w.i]? = some (w.at_, t) ∧ (w.at_, q) ∈ l.QL ∧ (t, (w.i : Int)) ∈ q.l
section
variable {N : Nat} {s : PS} {l : PkM}
theorem PkIs.to (h : PkIs N s l) {B : List (Sp × QM)} (p : l.QL.Perm B) : PkIs N s { l with QL := B } :=
  ⟨h.ps, h.tk, h.tn, h.ln, h.mpk.to p, fun x hx => h.q x (p.mem_iff.2 hx), fun w hw => by
    obtain ⟨t, q, h1, h2, h3⟩ := h.seat w hw
    exact ⟨t, q, h1, p.mem_iff.1 h2, h3⟩⟩
theorem PkIs.mono (h : PkIs N s l) {M : Nat} (hm : N ≤ M) : PkIs M s l :=
  ⟨h.ps, h.tk, Nat.le_trans h.tn hm, h.ln, h.mpk, fun x hx => ⟨⟨(h.q x hx).1.qk, (h.q x hx).1.mp, Nat.le_trans (h.q x hx).1.n hm⟩, (h.q x hx).2⟩, h.seat⟩
theorem PkIs.qlen (h : PkIs N s l) {x : Sp × QM} (hx : x ∈ l.QL) : x.2.l.length ≤ 64 := by
  have h1 := wAt_len s.W x.1
  have h2 := h.ps.few
  have h3 := congrArg List.length (h.q x hx).2
  rw [List.length_map] at h3
  omega
theorem PkIs.absent (h : PkIs N s l) {a : Sp} (ha : a ∉ l.QL.map (·.1)) : wAt s.W a = [] := by
  rw [List.eq_nil_iff_forall_not_mem]
  intro v hv
  obtain ⟨w, hw, rfl, _⟩ := wAt_mem.1 hv
  obtain ⟨t, q, _, h2, _⟩ := h.seat w hw
  exact ha (List.mem_map.2 ⟨_, h2, rfl⟩)
theorem PkIs.addkey (h : PkIs N s l) {a : Sp} (ha : a ∉ l.QL.map (·.1)) (pq pm : Nat) {mes' : Array MapEntry} {mc' : Nat} (hm : Mk ekS evP mes' mc' ((a, ⟨pq, pm, [], 0, #[], 0⟩) :: l.QL)) : PkIs N s { l with mes := mes', mc := mc', QL := (a, ⟨pq, pm, [], 0, #[], 0⟩) :: l.QL } :=
  ⟨h.ps, h.tk, h.tn, h.ln, hm, fun x hx => by
    rcases List.mem_cons.1 hx with rfl | hx
    · exact ⟨⟨Qk.empty 0, mp_new, Nat.zero_le _⟩, by rw [h.absent ha]; rfl⟩
    · exact h.q x hx, fun w hw => by
    obtain ⟨t, q, h1, h2, h3⟩ := h.seat w hw
    exact ⟨t, q, h1, List.mem_cons_of_mem _ h2, h3⟩⟩
theorem mk_swap {mes : Array MapEntry} {mc : Nat} {a : Sp} {q q' : QM} {R : List (Sp × QM)} (h : Mk ekS evP mes mc ((a, q) :: R)) (hp : q'.p = q.p) : Mk ekS evP mes mc ((a, q') :: R) :=
  ⟨by have := h.perm; simp only [List.map_cons, evP] at this ⊢; rw [hp]; exact this, by have := h.nodup; simpa using this, h.born, h.bnd⟩
theorem keys_ne {a : Sp} {q : QM} {R : List (Sp × QM)} (h : (((a, q) :: R).map (·.1)).Nodup) {x : Sp × QM} (hx : x ∈ R) : x.1 ≠ a := fun e => by
  rw [List.map_cons, List.nodup_cons] at h
  exact h.1 (List.mem_map.2 ⟨x, hx, e⟩)
theorem PkIs.push (h : PkIs N s l) {a : Sp} {q : QM} {R : List (Sp × QM)} (hQ : l.QL = (a, q) :: R) {i : Nat} (hi : s.sm[i]? = some 1) (ha : vldS a) {t' : TkM} (ht : TkIs (stepR s.sm s.qm 1 2 i).2.1 (stepR s.sm s.qm 1 2 i).2.2 t') (htn : t'.n ≤ N + 1)
    {q' : QM} (hp : q'.p = q.p) (hql : q'.l = q.l ++ [(q.n + 1, (i : Int))]) (hqn : q'.n = q.n + 1) (hqm : Mp (.int .u64) ekQ evQ q'.es (nds 0 0 q'.l)) :
    PkIs (N + 1) (s.add i a) { l with t := t', seats := l.seats.set i (a, q.n + 1), QL := (a, q') :: R } := by
  have hno : ∀ w ∈ s.W, w.i ≠ i := fun w hw e => by
    have := (h.ps.prk i).2 ⟨w, hw, e⟩
    rw [hi] at this; cases this
  have hil : i < l.seats.length := by rw [h.ln]; exact (List.getElem?_eq_some_iff.1 hi).1
  have hmk := h.mpk
  rw [hQ] at hmk
  have hq0 := h.q (a, q) (by rw [hQ]; exact List.mem_cons_self ..)
  refine ⟨h.ps.add_ hi ha, ht, htn, ?_, mk_swap hmk hp, fun x hx => ?_, fun w hw => ?_⟩
  · show (l.seats.set i _).length = (stepR _ _ _ _ _).2.1.length
    rw [List.length_set, stepR_len, h.ln]
  · show _ ∧ _ = wAt (s.W ++ [⟨i, a⟩]) x.1
    rw [wAt_snoc]
    rcases List.mem_cons.1 hx with rfl | hx
    · refine ⟨⟨by rw [hql, hqn]; exact hq0.1.qk.push _, hqm, by rw [hqn]; have := hq0.1.n; dsimp only at this; omega⟩, ?_⟩
      rw [if_pos rfl, hql, List.map_append, hq0.2]; rfl
    · have hne := keys_ne hmk.nodup hx
      have hq1 := h.q x (by rw [hQ]; exact List.mem_cons_of_mem _ hx)
      rw [if_neg (fun e => hne e.symm), List.append_nil]
      exact ⟨⟨hq1.1.qk, hq1.1.mp, by have := hq1.1.n; omega⟩, hq1.2⟩
  · rcases List.mem_append.1 hw with hw | hw
    · obtain ⟨t, q9, h1, h2, h3⟩ := h.seat w hw
      have hne := hno w hw
      rw [hQ] at h2
      rcases List.mem_cons.1 h2 with e | h2
      · simp only [Prod.mk.injEq] at e
        obtain ⟨e1, rfl⟩ := e
        exact ⟨t, q', by dsimp only; rw [List.getElem?_set, if_neg (Ne.symm hne)]; exact h1, by rw [e1]; exact List.mem_cons_self .., by rw [hql]; exact List.mem_append_left _ h3⟩
      · exact ⟨t, q9, by dsimp only; rw [List.getElem?_set, if_neg (Ne.symm hne)]; exact h1, List.mem_cons_of_mem _ h2, h3⟩
    · rw [List.mem_singleton] at hw
      subst hw
      exact ⟨q.n + 1, q', by dsimp only; rw [List.getElem?_set, if_pos rfl, if_pos hil], List.mem_cons_self .., by rw [hql]; exact List.mem_append_right _ (List.mem_singleton.2 rfl)⟩
theorem mid_filter {A B : List (Nat × Int)} {t : Nat} {v : Int} (h : ((A ++ (t, v) :: B).map (·.2)).Nodup) : ((A ++ (t, v) :: B).map (·.2)).filter (fun x => decide (x ≠ v)) = (A ++ B).map (·.2) := by
  have h1 := ((List.perm_middle (l₁ := A) (a := (t, v)) (l₂ := B)).map (fun x : Nat × Int => x.2)).nodup_iff.1 h
  rw [List.map_cons, List.nodup_cons] at h1
  have hA : (A.map (·.2)).filter (fun x => decide (x ≠ v)) = A.map (·.2) := List.filter_eq_self.2 fun x hx => decide_eq_true fun e => h1.1 (by rw [List.map_append]; exact List.mem_append_left _ (e ▸ hx))
  have hB : (B.map (·.2)).filter (fun x => decide (x ≠ v)) = B.map (·.2) := List.filter_eq_self.2 fun x hx => decide_eq_true fun e => h1.1 (by rw [List.map_append]; exact List.mem_append_right _ (e ▸ hx))
  rw [List.map_append, List.map_cons, List.filter_append, List.filter_cons_of_neg (by simp), hA, hB, List.map_append]
theorem PkIs.pop (h : PkIs N s l) {w : Wt} (hw : w ∈ s.W) {q : QM} {R : List (Sp × QM)} (hQ : l.QL = (w.at_, q) :: R) {A B : List (Nat × Int)} {t : Nat} (hq : q.l = A ++ (t, (w.i : Int)) :: B) {t' : TkM} (ht : TkIs (stepR s.sm s.qm 2 1 w.i).2.1 (stepR s.sm s.qm 2 1 w.i).2.2 t') (htn : t'.n ≤ N + 1)
    {q' : QM} (hp : q'.p = q.p) (hql : q'.l = A ++ B) (hqn : q'.n = q.n) (hqm : Mp (.int .u64) ekQ evQ q'.es (nds 0 0 q'.l)) :
    PkIs (N + 1) (s.out w.i) { l with t := t', QL := (w.at_, q') :: R } := by
  have hmk := h.mpk
  rw [hQ] at hmk
  have hq0 := h.q (w.at_, q) (by rw [hQ]; exact List.mem_cons_self ..)
  have hnd := wAt_nodup h.ps.nd w.at_
  rw [← hq0.2, hq] at hnd
  refine ⟨h.ps.out_ hw, ht, htn, ?_, mk_swap hmk hp, fun x hx => ?_, fun u hu => ?_⟩
  · show l.seats.length = (stepR _ _ _ _ _).2.1.length
    rw [stepR_len, h.ln]
  · show _ ∧ _ = wAt (wOut s.W w.i) x.1
    rw [wAt_out]
    rcases List.mem_cons.1 hx with rfl | hx
    · refine ⟨⟨by rw [hql, hqn]; have h9 := hq0.1.qk; rw [hq] at h9; exact h9.rem, hqm, by rw [hqn]; have := hq0.1.n; dsimp only at this; omega⟩, ?_⟩
      rw [hql, ← hq0.2, hq]
      exact (mid_filter hnd).symm
    · have hne := keys_ne hmk.nodup hx
      have hq1 := h.q x (by rw [hQ]; exact List.mem_cons_of_mem _ hx)
      refine ⟨⟨hq1.1.qk, hq1.1.mp, by have := hq1.1.n; omega⟩, ?_⟩
      rw [hq1.2]
      have hall : ∀ v ∈ wAt s.W x.1, v ≠ (w.i : Int) := fun v hv e => by
        obtain ⟨u, hu, e1, e2⟩ := wAt_mem.1 hv
        have := wt_one h.ps.nd hu hw (by omega)
        subst this
        exact hne e1.symm
      exact (List.filter_eq_self.2 fun v hv => decide_eq_true (hall v hv)).symm
  · obtain ⟨hu1, hu2⟩ := wOut_mem.1 hu
    obtain ⟨t9, q9, h1, h2, h3⟩ := h.seat u hu1
    rw [hQ] at h2
    rcases List.mem_cons.1 h2 with e | h2
    · simp only [Prod.mk.injEq] at e
      obtain ⟨e1, rfl⟩ := e
      refine ⟨t9, q', h1, by rw [e1]; exact List.mem_cons_self .., ?_⟩
      rw [hq] at h3
      rw [hql]
      rcases List.mem_append.1 h3 with h3 | h3
      · exact List.mem_append_left _ h3
      · rcases List.mem_cons.1 h3 with h3 | h3
        · simp only [Prod.mk.injEq] at h3; exact absurd h3.2 hu2
        · exact List.mem_append_right _ h3
    · exact ⟨t9, q9, h1, List.mem_cons_of_mem _ h2, h3⟩
theorem PkIs.step (h : PkIs N s l) (fr to i : Int) (hf : fr ≠ 2) (hto : to ≠ 2) {t' : TkM} (ht : TkIs (stepR s.sm s.qm fr to i).2.1 (stepR s.sm s.qm fr to i).2.2 t') (htn : t'.n ≤ N + 1) : PkIs (N + 1) (s.step fr to i) { l with t := t' } :=
  ⟨h.ps.step_ fr to i hf hto, ht, htn, by show l.seats.length = (stepR _ _ _ _ _).2.1.length; rw [stepR_len, h.ln], h.mpk, fun x hx => ⟨⟨(h.q x hx).1.qk, (h.q x hx).1.mp, by have := (h.q x hx).1.n; omega⟩, (h.q x hx).2⟩, h.seat⟩
/-- The queue of a parked task comes first. -/
theorem PkIs.at_ (h : PkIs N s l) {w : Wt} (hw : w ∈ s.W) : ∃ (t : Nat) (q : QM) (R : List (Sp × QM)) (A B : List (Nat × Int)), l.seats[w.i]? = some (w.at_, t) ∧ l.QL.Perm ((w.at_, q) :: R) ∧ q.l = A ++ (t, (w.i : Int)) :: B := by
  obtain ⟨t, q, h1, h2, h3⟩ := h.seat w hw
  obtain ⟨A, B, e⟩ := List.append_of_mem h3
  obtain ⟨P, Q, e2⟩ := List.append_of_mem h2
  exact ⟨t, q, P ++ Q, A, B, h1, by rw [e2]; exact List.perm_middle, e⟩
theorem key_or (l : PkM) (a : Sp) : a ∉ l.QL.map (·.1) ∨ ∃ (q : QM) (R : List (Sp × QM)), l.QL.Perm ((a, q) :: R) := by
  by_cases h : a ∈ l.QL.map (·.1)
  · obtain ⟨⟨a2, q⟩, hx, rfl⟩ := List.mem_map.1 h
    obtain ⟨P, Q, e⟩ := List.append_of_mem hx
    exact .inr ⟨q, P ++ Q, by rw [e]; exact List.perm_middle⟩
  · exact .inl h
end
end Go.Proofs.YtbkdebnkoidicaaGreat
end
section
set_option linter.unusedVariables false
set_option maxRecDepth 20000
set_option maxHeartbeats 1000000
namespace Go.Proofs.YtbkdebnkoidicaaGreat
theorem pk_zero (l : PkM) : Spec Tryz.prog 91 [ptrQ l.p] (pkH l) (fun r H' => r = .bool false ∧ H' = pkH l) := by
  refine Spec.of (E := [(0, ptrQ l.p)]) Tryz.func91 rfl (by kernel_rfl) Tryz.ntmps91 rfl rfl (fun w => ?_)
  refine WC_seq ?_
  refine WC_region ?_
  refine WL_val rfl rfl rfl (R_assign rfl rfl) ?_
  refine WL_nil ?_
  refine WQ_code ?_
  refine WC_seq ?_
  refine WC_region ?_
  refine WL_val rfl rfl rfl (R_move rfl rfl) ?_
  refine WL_val rfl rfl rfl (R_ptrEqNil rfl Tryz.underlying89 rfl) ?_
  refine WL_val rfl rfl rfl (R_move rfl rfl) ?_
  refine WL_val rfl rfl rfl (R_move rfl rfl) ?_
  refine WL_val rfl rfl rfl (R_nilCheck rfl rfl) ?_
  refine WL_val rfl rfl rfl (R_fieldAddr rfl fa154_0 rfl) ?_
  refine WL_val rfl rfl rfl (R_load rfl sc148 rfl (mmY) rfl) ?_
  refine WL_val rfl rfl rfl (R_ptrEqNil rfl Tryz.underlying148 rfl) ?_
  refine WL_val rfl rfl rfl (R_pickF rfl rfl rfl) ?_
  refine WL_val rfl rfl rfl (R_assign rfl rfl) ?_
  refine WL_nil ?_
  refine WQ_code ?_
  refine WC_ret ?_
  refine WQ_ret rfl rfl (.cons (.tmp rfl) .nil) rfl (by
      exact ⟨rfl, rfl⟩) (pqY)
theorem valid_ok (a : Sp) : Spec Tryz.prog 93 [ekS a] [] (fun r H' => r = .bool (decide (vldS a)) ∧ H' = []) := by
  refine Spec.of (E := [(0, ekS a)]) Tryz.func93 rfl (by kernel_rfl) Tryz.ntmps93 rfl rfl (fun w => ?_)
  refine WC_seq ?_
  refine WC_region ?_
  refine WL_do rfl rfl rfl (D_box (cs := [_, _]) rfl rfl rfl) ?_
  rintro _ _ ⟨b1, rfl, rfl⟩
  refine WL_val rfl rfl rfl (R_assign rfl rfl) ?_
  refine WL_nil ?_
  refine WQ_code ?_
  refine WC_seq ?_
  refine WC_region ?_
  refine WL_val rfl rfl rfl (R_fieldAddr rfl fa108_0 rfl) ?_
  refine WL_val rfl rfl rfl (R_load rfl sc3 rfl (mmY) rfl) ?_
  refine WL_val rfl rfl rfl (R_geq rfl rfl rfl) ?_
  refine WL_val rfl rfl rfl (R_move rfl rfl) ?_
  refine WL_splitD (s := 6) rfl (fun c1 => ?_) (fun c1 => ?_)
  · refine WL_val rfl rfl rfl (R_fieldAddr rfl fa108_0 rfl) ?_
    refine WL_val rfl rfl rfl (R_load rfl sc3 rfl (mmY) rfl) ?_
    refine WL_val rfl rfl rfl (R_lss rfl rfl rfl) ?_
    refine WL_val rfl rfl rfl (R_pickT rfl rfl rfl) ?_
    refine WL_val rfl rfl rfl (R_move rfl rfl) ?_
    refine WL_splitD (s := 11) rfl (fun c2 => ?_) (fun c2 => ?_)
    · refine WL_val rfl rfl rfl (R_fieldAddr rfl fa108_1 rfl) ?_
      refine WL_val rfl rfl rfl (R_load rfl sc44 rfl (mmY) rfl) ?_
      refine WL_val rfl rfl rfl (R_eql rfl rfl rfl) ?_
      refine WL_val rfl rfl rfl (R_move rfl rfl) ?_
      refine WL_splitD (s := 15) rfl (fun c3 => ?_) (fun c3 => ?_)
      · refine WL_skip rfl rfl rfl ?_
        refine WL_skip rfl rfl rfl ?_
        refine WL_skip rfl rfl rfl ?_
        refine WL_val rfl rfl rfl (R_pickT rfl rfl rfl) ?_
        refine WL_val rfl rfl rfl (R_pickT rfl rfl rfl) ?_
        refine WL_val rfl rfl rfl (R_assign rfl rfl) ?_
        refine WL_nil ?_
        refine WQ_code ?_
        refine WC_ret ?_
        refine WQ_ret rfl rfl (.cons (.tmp rfl) .nil) rfl (by
            exact ⟨congrArg Value.bool (by first | exact (decide_eq_false (by unfold vldS; omega)).symm | exact (decide_eq_true (by unfold vldS; omega)).symm | exact decide_eq_decide.2 (by unfold vldS; omega)), rfl⟩) (pqY)
      · refine WL_val rfl rfl rfl (R_fieldAddr rfl fa108_1 rfl) ?_
        refine WL_val rfl rfl rfl (R_load rfl sc44 rfl (mmY) rfl) ?_
        refine WL_val rfl rfl rfl (R_eql rfl rfl rfl) ?_
        refine WL_val rfl rfl rfl (R_pickF rfl rfl rfl) ?_
        refine WL_val rfl rfl rfl (R_pickT rfl rfl rfl) ?_
        refine WL_val rfl rfl rfl (R_assign rfl rfl) ?_
        refine WL_nil ?_
        refine WQ_code ?_
        refine WC_ret ?_
        refine WQ_ret rfl rfl (.cons (.tmp rfl) .nil) rfl (by
            exact ⟨congrArg Value.bool (by first | exact (decide_eq_false (by unfold vldS; omega)).symm | exact (decide_eq_true (by unfold vldS; omega)).symm | exact decide_eq_decide.2 (by unfold vldS; omega)), rfl⟩) (pqY)
    · refine WL_skip rfl rfl rfl ?_
      refine WL_skip rfl rfl rfl ?_
      refine WL_skip rfl rfl rfl ?_
      refine WL_skip rfl rfl rfl ?_
      refine WL_skip rfl rfl rfl ?_
      refine WL_skip rfl rfl rfl ?_
      refine WL_skip rfl rfl rfl ?_
      refine WL_skip rfl rfl rfl ?_
      refine WL_val rfl rfl rfl (R_pickF rfl rfl rfl) ?_
      refine WL_val rfl rfl rfl (R_assign rfl rfl) ?_
      refine WL_nil ?_
      refine WQ_code ?_
      refine WC_ret ?_
      refine WQ_ret rfl rfl (.cons (.tmp rfl) .nil) rfl (by
          exact ⟨congrArg Value.bool (by first | exact (decide_eq_false (by unfold vldS; omega)).symm | exact (decide_eq_true (by unfold vldS; omega)).symm | exact decide_eq_decide.2 (by unfold vldS; omega)), rfl⟩) (pqY)
  · refine WL_skip rfl rfl rfl ?_
    refine WL_skip rfl rfl rfl ?_
    refine WL_skip rfl rfl rfl ?_
    refine WL_val rfl rfl rfl (R_pickF rfl rfl rfl) ?_
    refine WL_val rfl rfl rfl (R_move rfl rfl) ?_
    refine WL_skip rfl rfl rfl ?_
    refine WL_skip rfl rfl rfl ?_
    refine WL_skip rfl rfl rfl ?_
    refine WL_skip rfl rfl rfl ?_
    refine WL_skip rfl rfl rfl ?_
    refine WL_skip rfl rfl rfl ?_
    refine WL_skip rfl rfl rfl ?_
    refine WL_skip rfl rfl rfl ?_
    refine WL_val rfl rfl rfl (R_pickF rfl rfl rfl) ?_
    refine WL_val rfl rfl rfl (R_assign rfl rfl) ?_
    refine WL_nil ?_
    refine WQ_code ?_
    refine WC_ret ?_
    refine WQ_ret rfl rfl (.cons (.tmp rfl) .nil) rfl (by
        exact ⟨congrArg Value.bool (by first | exact (decide_eq_false (by unfold vldS; omega)).symm | exact (decide_eq_true (by unfold vldS; omega)).symm | exact decide_eq_decide.2 (by unfold vldS; omega)), rfl⟩) (pqY)
theorem pk_state (N : Nat) (s : PS) (l : PkM) (hl : PkIs N s l) (i : Int) : Spec Tryz.prog 58 [ptrQ l.p, .int .i64 i] (pkH l) (fun r H' => r = .tuple #[.int .i64 (stR s.sm i).1, .int .i64 (stR s.sm i).2] ∧ H' = pkH l) := by
  refine Spec.of (E := [(0, ptrQ l.p), (1, .int .i64 i)]) Tryz.func58 rfl (by kernel_rfl) Tryz.ntmps58 rfl rfl (fun w => ?_)
  refine WC_seq ?_
  refine WC_region ?_
  refine WL_val rfl rfl rfl (R_assign rfl rfl) ?_
  refine WL_val rfl rfl rfl (R_assign rfl rfl) ?_
  refine WL_nil ?_
  refine WQ_code ?_
  refine WC_seq ?_
  refine WC_seq ?_
  refine WC_region ?_
  refine WL_val rfl rfl rfl (R_move rfl rfl) ?_
  refine WL_do rfl rfl rfl (D_call (pk_zero l) rfl rfl rfl rfl (pqY)) ?_
  rintro _ _ ⟨_, ⟨rfl, rfl⟩, rfl⟩
  refine WL_nil ?_
  refine WQ_code ?_
  refine WC_F rfl ?_
  refine WC_skip ?_
  refine WQ_code ?_
  refine WC_seq ?_
  refine WC_region ?_
  refine WL_val rfl rfl rfl (R_move rfl rfl) ?_
  refine WL_val rfl rfl rfl (R_nilCheck rfl rfl) ?_
  refine WL_val rfl rfl rfl (R_fieldAddr rfl fa154_0 rfl) ?_
  refine WL_val rfl rfl rfl (R_load rfl sc148 rfl (mmY) rfl) ?_
  refine WL_val rfl rfl rfl (R_move rfl rfl) ?_
  refine WL_do rfl rfl rfl (D_call (tk_state l.t s.sm s.qm hl.tk i) rfl rfl rfl rfl (pqY)) ?_
  rintro _ _ ⟨_, ⟨rfl, rfl⟩, rfl⟩
  refine WL_val rfl rfl rfl (R_extract rfl rfl rfl) ?_
  refine WL_val rfl rfl rfl (R_extract rfl rfl rfl) ?_
  refine WL_val rfl rfl rfl (R_assign rfl rfl) ?_
  refine WL_val rfl rfl rfl (R_assign rfl rfl) ?_
  refine WL_nil ?_
  refine WQ_code ?_
  refine WC_ret ?_
  refine WQ_ret rfl rfl (.cons (.tmp rfl) (.cons (.tmp rfl) .nil)) rfl (by
      exact ⟨rfl, rfl⟩) (pqY)
theorem pk_ready (N : Nat) (s : PS) (l : PkM) (hl : PkIs N s l) : Spec Tryz.prog 51 [ptrQ l.p] (pkH l) (fun r H' => ∃ ob c' tl', r = slV ob s.qm.length c' ∧ Own ob s.qm.length c' 1 (ivs s.qm) tl' ∧ H' = ⟨ob, cl (ivs s.qm ++ tl') 3⟩ :: pkH l) := by
  refine Spec.of (E := [(0, ptrQ l.p)]) Tryz.func51 rfl (by kernel_rfl) Tryz.ntmps51 rfl rfl (fun w => ?_)
  refine WC_seq ?_
  refine WC_region ?_
  refine WL_val rfl rfl rfl (R_assign rfl rfl) ?_
  refine WL_nil ?_
  refine WQ_code ?_
  refine WC_seq ?_
  refine WC_seq ?_
  refine WC_region ?_
  refine WL_val rfl rfl rfl (R_move rfl rfl) ?_
  refine WL_do rfl rfl rfl (D_call (pk_zero l) rfl rfl rfl rfl (pqY)) ?_
  rintro _ _ ⟨_, ⟨rfl, rfl⟩, rfl⟩
  refine WL_nil ?_
  refine WQ_code ?_
  refine WC_F rfl ?_
  refine WC_skip ?_
  refine WQ_code ?_
  refine WC_seq ?_
  refine WC_region ?_
  refine WL_val rfl rfl rfl (R_move rfl rfl) ?_
  refine WL_val rfl rfl rfl (R_nilCheck rfl rfl) ?_
  refine WL_val rfl rfl rfl (R_fieldAddr rfl fa154_0 rfl) ?_
  refine WL_val rfl rfl rfl (R_load rfl sc148 rfl (mmY) rfl) ?_
  refine WL_do rfl rfl rfl (D_call (tk_ready l.t s.sm s.qm hl.tk) rfl rfl rfl rfl (pqY)) ?_
  rintro _ _ ⟨_, ⟨ob, c', tl', rfl, own', rfl⟩, rfl⟩
  refine WL_val rfl rfl rfl (R_assign rfl rfl) ?_
  refine WL_nil ?_
  refine WQ_code ?_
  refine WC_ret ?_
  refine WQ_ret rfl rfl (.cons (.tmp rfl) .nil) rfl (by
      exact ⟨ob, c', tl', rfl, own', rfl⟩) (pqY)
theorem pk_start (N : Nat) (s : PS) (l : PkM) (hl : PkIs N s l) (hN : N < 900000) (i : Int) : Spec Tryz.prog 46 [ptrQ l.p, .int .i64 i] (pkH l) (fun r H' => ∃ l' : PkM, r = .int .i64 (stepR s.sm s.qm 0 1 i).1 ∧ H' = pkH l' ∧ l'.p = l.p ∧ PkIs (N + 1) (s.step 0 1 i) l') := by
  have htn := hl.tn
  refine Spec.of (E := [(0, ptrQ l.p), (1, .int .i64 i)]) Tryz.func46 rfl (by kernel_rfl) Tryz.ntmps46 rfl rfl (fun w => ?_)
  refine WC_seq ?_
  refine WC_region ?_
  refine WL_val rfl rfl rfl (R_assign rfl rfl) ?_
  refine WL_nil ?_
  refine WQ_code ?_
  refine WC_seq ?_
  refine WC_seq ?_
  refine WC_region ?_
  refine WL_val rfl rfl rfl (R_move rfl rfl) ?_
  refine WL_do rfl rfl rfl (D_call (pk_zero l) rfl rfl rfl rfl (pqY)) ?_
  rintro _ _ ⟨_, ⟨rfl, rfl⟩, rfl⟩
  refine WL_nil ?_
  refine WQ_code ?_
  refine WC_F rfl ?_
  refine WC_skip ?_
  refine WQ_code ?_
  refine WC_seq ?_
  refine WC_region ?_
  refine WL_val rfl rfl rfl (R_move rfl rfl) ?_
  refine WL_val rfl rfl rfl (R_nilCheck rfl rfl) ?_
  refine WL_val rfl rfl rfl (R_fieldAddr rfl fa154_0 rfl) ?_
  refine WL_val rfl rfl rfl (R_load rfl sc148 rfl (mmY) rfl) ?_
  refine WL_val rfl rfl rfl (R_move rfl rfl) ?_
  refine WL_do rfl rfl rfl (D_call (tk_start l.t s.sm s.qm hl.tk (by omega) i) rfl rfl rfl rfl (pqY)) ?_
  rintro _ _ ⟨_, ⟨t', rfl, rfl, htp, htn', ht'⟩, rfl⟩
  rw [← htp]
  refine WL_val rfl rfl rfl (R_assign rfl rfl) ?_
  refine WL_nil ?_
  refine WQ_code ?_
  refine WC_ret ?_
  refine WQ_ret rfl rfl (.cons (.tmp rfl) .nil) rfl (by
      exact ⟨{ l with t := t' }, rfl, rfl, rfl, hl.step 0 1 i (by decide) (by decide) ht' (by omega)⟩) (pqY)
def seats0 (m : Nat) : List (Sp × Nat) := List.replicate m ((0, 0), 0)
theorem pnew_ok (m : Nat) (h1 : 1 ≤ m) (h2 : m ≤ 64) : Spec Tryz.prog 38 [.int .i64 (m : Int)] [] (fun r H' => ∃ l : PkM, r = .tuple #[ptrQ l.p, .int .i64 0] ∧ H' = pkH l ∧ PkIs 0 ⟨List.replicate m 0, [], []⟩ l) := by
  refine Spec.of (E := [(0, .int .i64 (m : Int))]) Tryz.func38 rfl (by kernel_rfl) Tryz.ntmps38 rfl rfl (fun w => ?_)
  refine WC_seq ?_
  refine WC_region ?_
  refine WL_val rfl rfl rfl (R_assign rfl rfl) ?_
  refine WL_val rfl rfl rfl (R_assign rfl rfl) ?_
  refine WL_nil ?_
  refine WQ_code ?_
  refine WC_seq ?_
  refine WC_region ?_
  refine WL_val rfl rfl rfl (R_move rfl rfl) ?_
  refine WL_do rfl rfl rfl (D_call (tk_new m h1 h2) rfl rfl rfl rfl (pqY)) ?_
  rintro _ _ ⟨_, ⟨t, rfl, rfl, htn, ht⟩, rfl⟩
  refine WL_val rfl rfl rfl (R_move rfl rfl) ?_
  refine WL_val rfl rfl rfl (R_extract rfl rfl rfl) ?_
  refine WL_val rfl rfl rfl (R_extract rfl rfl rfl) ?_
  refine WL_val rfl rfl rfl (R_assign rfl rfl) ?_
  refine WL_val rfl rfl rfl (R_assign rfl rfl) ?_
  refine WL_nil ?_
  refine WQ_code ?_
  refine WC_seq ?_
  refine WC_seq ?_
  refine WC_region ?_
  refine WL_val rfl rfl rfl (R_move rfl rfl) ?_
  refine WL_val rfl rfl rfl (R_neq rfl rfl rfl) ?_
  refine WL_nil ?_
  refine WQ_code ?_
  refine WC_dF rfl (by decide) ?_
  refine WC_skip ?_
  refine WQ_code ?_
  refine WC_seq ?_
  refine WC_region ?_
  refine WL_val rfl rfl rfl (R_move rfl rfl) ?_
  refine WL_val rfl rfl rfl (R_move rfl rfl) ?_
  refine WL_do rfl rfl rfl (D_make (n := m) rfl si151 rfl rfl (by omega) (by omega)) ?_
  rintro _ _ ⟨b1, rfl, rfl⟩
  rw [show (List.replicate m [Value.int .i64 0, .int .i64 0, .int .u64 0]).flatten = (seats0 m).flatMap encSeat ++ [] from by rw [List.append_nil, seats0, ← fm_rep]; rfl, show Value.slice (some ⟨b1, 0, none⟩) m m = Value.slice (some ⟨b1, 0, none⟩) (seats0 m).length m from by rw [seats0, List.length_replicate]]
  refine WL_do rfl rfl rfl (D_makeMap rfl) ?_
  rintro _ _ ⟨mb, rfl, rfl⟩
  refine WL_val rfl rfl rfl (R_build rfl zv154 pl154 rfl rfl) ?_
  refine WL_do rfl rfl rfl (D_box (cs := [_, _, _]) rfl rfl rfl) ?_
  rintro _ _ ⟨b2, rfl, rfl⟩
  refine WL_val rfl rfl rfl (R_assign rfl rfl) ?_
  refine WL_val rfl rfl rfl (R_assign rfl rfl) ?_
  refine WL_nil ?_
  refine WQ_code ?_
  refine WC_ret ?_
  refine WQ_ret rfl rfl (.cons (.tmp rfl) (.cons (.tmp rfl) .nil)) rfl (by
      exact ⟨⟨b2, b1, mb, t, seats0 m, m, [], #[], 0, []⟩, rfl, rfl, PsOk.new h2, ht, by rw [htn]; exact Nat.le_refl _, by rw [seats0, List.length_replicate, List.length_replicate], Mk.empty, fun x hx => (by cases hx), fun w hw => (by cases hw)⟩) (pqY)
end Go.Proofs.YtbkdebnkoidicaaGreat
end
section
namespace Go.Proofs.YtbkdebnkoidicaaGreat
section
variable {X : Ctx} {E : Env} {H : Heap} {o : Oper}
theorem Own.void' {n c sz : Nat} {xs tl : List Value} (h : Own none n c sz xs tl) : n = 0 ∧ c = 0 ∧ xs = [] ∧ tl = [] := by
  have h1 := h.nil rfl
  have h2 := h.le
  have h3 := h.cap
  rw [h1, Nat.zero_mul] at h3
  exact ⟨by omega, h1, List.eq_nil_of_length_eq_zero (by omega), List.eq_nil_of_length_eq_zero (by omega)⟩
theorem run_append_nothing {P : Program} {t ty e : TypeId} {sz bytes n c : Nat} {zs : List Value} {ob : Option Nat} (hs : SI P t e sz bytes zs) (hle : n ≤ c) (w : World) :
    (Builtin.append_ #[t, t] ty #[slV ob n c, slV none 0 0]).run P w = .ok (slV ob n c) w := by
  obtain ⟨g1, i, z, g2, g3, g4, g5, g6, g7, g8⟩ := hs
  cases ob <;> simp [Builtin.append_, slV, run_underlying g1, sizeOf, typeInfo, g2, Builtin.lenOf, Builtin.firstCells, hle, storeCells]
/-- append(x, y...) where y may be nil. -/
theorem D_appendO {t e e2 : TypeId} {sz bytes n c m mc : Nat} {zs xs tl news ty : List Value} {ob oy : Option Nat} {x y : Operand} {F : Heap}
    (ho : o.op = .call { callee := .builtin .append, args := #[x, y], argTypes := #[t, t] }) (hs : SI X.P t e sz bytes zs) (hx : ev E x = some (slV ob n c)) (hown : Own ob n c sz xs tl) (hp : Pull ⟨ob, cl (xs ++ tl) e⟩ H F)
    (hy : ev E y = some (slV oy m mc)) (hown2 : Own oy m mc sz news ty) (hm : (⟨oy, cl (news ++ ty) e2⟩ : Ent) ∈ H) (h1 : news.all Value.oneCell' = true) (hroom : (n + m) * bytes ≤ 140737488355328) (h63 : n + m ≤ 9223372036854775807) :
    Does X o E H (fun v H' => ∃ ob' c' tl', v = slV ob' (n + m) c' ∧ Own ob' (n + m) c' sz (xs ++ news) tl' ∧ H' = ⟨ob', cl (xs ++ news ++ tl') e⟩ :: F) := by
  cases oy with
  | some b2 => exact D_append ho hs hx hown hp hy hm (fun j v hj => by rw [Nat.zero_add, List.getElem?_append_left (List.getElem?_eq_some_iff.1 hj).1]; exact hj : At (news ++ ty) 0 news) hown2.len h1 hroom h63
  | none =>
    obtain ⟨rfl, rfl, rfl, rfl⟩ := hown2.void'
    intro a w ha hw next Q kk
    refine ⟨about_true, ?_⟩
    rw [semAt_of (by rw [ho]; intro c e; cases e)]
    have hr := run_append_nothing (ty := o.type) (ob := ob) hs hown.le w
    have hexec : (execOp a.eval o).run X.P w = .ok (.value (slV ob n c)) w := by
      simp [execOp, ho, resolve, ha.eval hx, ha.eval hy, invoke, builtin, hr]
    rw [hexec]
    exact kk _ _ _ ⟨ob, c, tl, rfl, by rw [List.append_nil]; exact hown, rfl⟩ (by rw [List.append_nil]; exact hw.perm hp.perm)
end
end Go.Proofs.YtbkdebnkoidicaaGreat
end
section
set_option linter.unusedVariables false
set_option maxRecDepth 20000
set_option maxHeartbeats 1000000
namespace Go.Proofs.YtbkdebnkoidicaaGreat
theorem pk_where_no (N : Nat) (s : PS) (l : PkM) (hl : PkIs N s l) (i : Int) (h : (s.whr i).2 ≠ 0) : Spec Tryz.prog 52 [ptrQ l.p, .int .i64 i] (pkH l) (fun r H' => r = .tuple #[ekS (s.whr i).1, .int .i64 (s.whr i).2] ∧ H' = pkH l) := by
  refine Spec.of (E := [(0, ptrQ l.p), (1, .int .i64 i)]) Tryz.func52 rfl (by kernel_rfl) Tryz.ntmps52 rfl rfl (fun w => ?_)
  refine WC_seq ?_
  refine WC_region ?_
  refine WL_do rfl rfl rfl (D_alloc rfl zv108) ?_
  rintro _ _ ⟨b1, rfl, rfl⟩
  refine WL_val rfl rfl rfl (R_assign rfl rfl) ?_
  refine WL_nil ?_
  refine WQ_code ?_
  refine WC_seq ?_
  refine WC_region ?_
  refine WL_val rfl rfl rfl (R_move rfl rfl) ?_
  refine WL_val rfl rfl rfl (R_move rfl rfl) ?_
  refine WL_do rfl rfl rfl (D_call (pk_state N s l hl i) rfl rfl rfl rfl (pqY)) ?_
  rintro _ _ ⟨_, ⟨rfl, rfl⟩, rfl⟩
  refine WL_val rfl rfl rfl (R_move rfl rfl) ?_
  refine WL_val rfl rfl rfl (R_extract rfl rfl rfl) ?_
  refine WL_val rfl rfl rfl (R_extract rfl rfl rfl) ?_
  refine WL_val rfl rfl rfl (R_assign rfl rfl) ?_
  refine WL_val rfl rfl rfl (R_assign rfl rfl) ?_
  refine WL_nil ?_
  refine WQ_code ?_
  refine WC_seq ?_
  refine WC_block ?_
  refine WC_seq ?_
  refine WC_region ?_
  refine WL_val rfl rfl rfl (R_move rfl rfl) ?_
  refine WL_val rfl rfl rfl (R_neq rfl rfl rfl) ?_
  refine WL_val rfl rfl rfl (R_assign rfl rfl) ?_
  refine WL_nil ?_
  refine WQ_code ?_
  refine WC_dec rfl (fun c1 => ?_) (fun c1 => ?_)
  · have e9 : s.whr i = ((0, 0), (stR s.sm i).2) := by unfold PS.whr; rw [if_pos c1]
    refine WC_seq ?_
    refine WC_region ?_
    refine WL_val rfl rfl rfl (R_build rfl zv108 pl108 rfl rfl) ?_
    refine WL_val rfl rfl rfl (R_move rfl rfl) ?_
    refine WL_do0 rfl rfl (D_store (vs := [_, _]) rfl Tryz.sizeOf108 rfl rfl rfl rfl rfl (plY) (by exact Nat.le_of_ble_eq_true rfl)) ?_
    rintro _ _ rfl
    refine WL_val rfl rfl rfl (R_assign rfl rfl) ?_
    refine WL_nil ?_
    refine WQ_code ?_
    refine WC_ret ?_
    refine WQ_ret rfl rfl (.cons (.cell (vs := [_, _]) rfl ag108 (mmY) rfl (atZ)) (.cons (.tmp rfl) .nil)) rfl (by
        exact ⟨by rw [e9]; rfl, rfl⟩) (pqY)
  · obtain ⟨j, x, rfl, hx, hst⟩ := stR_some (show (stR s.sm i).2 = 0 from Decidable.not_not.1 c1)
    refine WC_seq ?_
    refine WC_region ?_
    refine WL_val rfl rfl rfl (R_move rfl rfl) ?_
    refine WL_val rfl rfl rfl (R_neq rfl rfl rfl) ?_
    refine WL_val rfl rfl rfl (R_assign rfl rfl) ?_
    refine WL_nil ?_
    refine WQ_code ?_
    refine WC_dec rfl (fun c2 => ?_) (fun c2 => ?_)
    · have e9 : s.whr (j : Int) = ((0, 0), 8) := hl.ps.whr_no hx (by rw [hst] at c2; omega)
      refine WC_seq ?_
      refine WC_region ?_
      refine WL_val rfl rfl rfl (R_build rfl zv108 pl108 rfl rfl) ?_
      refine WL_do0 rfl rfl (D_store (vs := [_, _]) rfl Tryz.sizeOf108 rfl rfl rfl rfl rfl (plY) (by exact Nat.le_of_ble_eq_true rfl)) ?_
      rintro _ _ rfl
      refine WL_val rfl rfl rfl (R_assign rfl rfl) ?_
      refine WL_nil ?_
      refine WQ_code ?_
      refine WC_ret ?_
      refine WQ_ret rfl rfl (.cons (.cell (vs := [_, _]) rfl ag108 (mmY) rfl (atZ)) (.cons (.tmp rfl) .nil)) rfl (by
          exact ⟨by rw [e9]; rfl, rfl⟩) (pqY)
    · exfalso; apply h; obtain rfl : x = 2 := (by rw [hst] at c2; omega); obtain ⟨z, hz, rfl⟩ := (hl.ps.prk j).1 hx; rw [hl.ps.whr_yes hz]
theorem pk_where_yes (N : Nat) (s : PS) (l : PkM) (hl : PkIs N s l) (z : Wt) (hz : z ∈ s.W) : Spec Tryz.prog 52 [ptrQ l.p, .int .i64 (z.i : Int)] (pkH l) (fun r H' => r = .tuple #[ekS z.at_, .int .i64 0] ∧ H' = pkH l) := by
  have hi := (hl.ps.prk z.i).2 ⟨z, hz, rfl⟩
  obtain ⟨t, q, hst, _, _⟩ := hl.seat z hz
  have hlt := (List.getElem?_eq_some_iff.1 hst).1
  refine Spec.of (E := [(0, ptrQ l.p), (1, .int .i64 (z.i : Int))]) Tryz.func52 rfl (by kernel_rfl) Tryz.ntmps52 rfl rfl (fun w => ?_)
  refine WC_seq ?_
  refine WC_region ?_
  refine WL_do rfl rfl rfl (D_alloc rfl zv108) ?_
  rintro _ _ ⟨b1, rfl, rfl⟩
  refine WL_val rfl rfl rfl (R_assign rfl rfl) ?_
  refine WL_nil ?_
  refine WQ_code ?_
  refine WC_seq ?_
  refine WC_region ?_
  refine WL_val rfl rfl rfl (R_move rfl rfl) ?_
  refine WL_val rfl rfl rfl (R_move rfl rfl) ?_
  refine WL_do rfl rfl rfl (D_call (pk_state N s l hl (z.i : Int)) rfl rfl rfl rfl (pqY)) ?_
  rintro _ _ ⟨_, ⟨rfl, rfl⟩, rfl⟩
  refine WL_val rfl rfl rfl (R_move rfl rfl) ?_
  refine WL_val rfl rfl rfl (R_extract rfl rfl rfl) ?_
  refine WL_val rfl rfl rfl (R_extract rfl rfl rfl) ?_
  refine WL_val rfl rfl rfl (R_assign rfl rfl) ?_
  refine WL_val rfl rfl rfl (R_assign rfl rfl) ?_
  refine WL_nil ?_
  refine WQ_code ?_
  refine WC_seq ?_
  refine WC_block ?_
  refine WC_seq ?_
  refine WC_region ?_
  refine WL_val rfl rfl rfl (R_move rfl rfl) ?_
  refine WL_val rfl rfl rfl (R_neq rfl rfl rfl) ?_
  refine WL_val rfl rfl rfl (R_assign rfl rfl) ?_
  refine WL_nil ?_
  refine WQ_code ?_
  refine WC_dF rfl (by rw [stR_in hi]; decide) ?_
  refine WC_seq ?_
  refine WC_region ?_
  refine WL_val rfl rfl rfl (R_move rfl rfl) ?_
  refine WL_val rfl rfl rfl (R_neq rfl rfl rfl) ?_
  refine WL_val rfl rfl rfl (R_assign rfl rfl) ?_
  refine WL_nil ?_
  refine WQ_code ?_
  refine WC_dF rfl (by rw [stR_in hi]; decide) ?_
  refine WC_skip ?_
  refine WQ_code ?_
  refine WC_seq ?_
  refine WC_region ?_
  refine WL_val rfl rfl rfl (R_move rfl rfl) ?_
  refine WL_val rfl rfl rfl (R_nilCheck rfl rfl) ?_
  refine WL_val rfl rfl rfl (R_fieldAddr rfl fa154_1 rfl) ?_
  refine WL_val rfl rfl rfl (R_load rfl sc151 rfl (mmY) rfl) ?_
  refine WL_val rfl rfl rfl (R_move rfl rfl) ?_
  refine WL_val rfl rfl rfl (R_indexAddrN rfl Tryz.underlying151 Tryz.sizeOf182 rfl rfl (by omega)) ?_
  refine WL_val rfl rfl rfl (R_fieldAddr rfl fa182_0 rfl) ?_
  refine WL_val rfl rfl rfl (R_loadA (vs := [.int .i64 z.at_.1, .int .i64 z.at_.2]) rfl ag108 rfl (mmY) rfl (fm_at0 encSeat3 hst (j := 0) (vs := [.int .i64 z.at_.1, .int .i64 z.at_.2]) (atZ) (by simp))) ?_
  refine WL_do0 rfl rfl (D_store (vs := [_, _]) rfl Tryz.sizeOf108 rfl rfl rfl rfl rfl (plY) (by exact Nat.le_of_ble_eq_true rfl)) ?_
  rintro _ _ rfl
  refine WL_val rfl rfl rfl (R_assign rfl rfl) ?_
  refine WL_nil ?_
  refine WQ_code ?_
  refine WC_ret ?_
  refine WQ_ret rfl rfl (.cons (.cell (vs := [_, _]) rfl ag108 (mmY) rfl (atZ)) (.cons (.tmp rfl) .nil)) rfl (by
      exact ⟨rfl, rfl⟩) (pqY)
theorem pk_where (N : Nat) (s : PS) (l : PkM) (hl : PkIs N s l) (i : Int) : Spec Tryz.prog 52 [ptrQ l.p, .int .i64 i] (pkH l) (fun r H' => r = .tuple #[ekS (s.whr i).1, .int .i64 (s.whr i).2] ∧ H' = pkH l) := by
  by_cases h : (s.whr i).2 = 0
  · obtain ⟨w, hw, rfl, e⟩ := whr_some hl.ps h
    rw [e]; exact pk_where_yes N s l hl w hw
  · exact pk_where_no N s l hl i h
theorem pk_wait_bad (N : Nat) (s : PS) (l : PkM) (hl : PkIs N s l) (a : Sp) (h : ¬ vldS a) : Spec Tryz.prog 114 [ptrQ l.p, ekS a] (pkH l) (fun r H' => r = .tuple #[.slice none 0 0, .int .i64 2] ∧ H' = pkH l) := by
  refine Spec.ofM (E := [(0, ptrQ l.p), (1, ekS a)]) Tryz.func114 rfl (by kernel_rfl) Tryz.ntmps114 rfl rfl (fun w => ?_)
  refine WC_seq ?_
  refine WC_region ?_
  refine WL_do rfl rfl rfl (D_box (cs := [_, _]) rfl rfl rfl) ?_
  rintro _ _ ⟨b1, rfl, rfl⟩
  refine WL_val rfl rfl rfl (R_assign rfl rfl) ?_
  refine WL_val rfl rfl rfl (R_assign rfl rfl) ?_
  refine WL_nil ?_
  refine WQ_code ?_
  refine WC_seq ?_
  refine WC_block ?_
  refine WC_seq ?_
  refine WC_region ?_
  refine WL_val rfl rfl rfl (R_move rfl rfl) ?_
  refine WL_do rfl rfl rfl (D_call (pk_zero l) rfl rfl rfl rfl (pqY)) ?_
  rintro _ _ ⟨_, ⟨rfl, rfl⟩, rfl⟩
  refine WL_val rfl rfl rfl (R_assign rfl rfl) ?_
  refine WL_nil ?_
  refine WQ_code ?_
  refine WC_F rfl ?_
  refine WC_seq ?_
  refine WC_region ?_
  refine WL_val rfl rfl rfl (R_loadA (vs := [_, _]) rfl ag108 rfl (mmY) rfl (atZ)) ?_
  refine WL_do rfl rfl rfl (D_call (valid_ok a) rfl rfl rfl rfl (pqY)) ?_
  rintro _ _ ⟨_, ⟨rfl, rfl⟩, rfl⟩
  refine WL_val rfl rfl rfl (R_notD rfl rfl) ?_
  refine WL_val rfl rfl rfl (R_assign rfl rfl) ?_
  refine WL_nil ?_
  refine WQ_code ?_
  refine WC_dT rfl (by exact h) ?_
  refine WC_seq ?_
  refine WC_region ?_
  refine WL_val rfl rfl rfl (R_assign rfl rfl) ?_
  refine WL_val rfl rfl rfl (R_assign rfl rfl) ?_
  refine WL_nil ?_
  refine WQ_code ?_
  refine WC_ret ?_
  refine WQ_retM0 rfl rfl (.cons (.tmp rfl) (.cons (.tmp rfl) .nil)) rfl (by
      exact ⟨rfl, rfl⟩) (pqY)
theorem pk_wait_no (N : Nat) (s : PS) (l : PkM) (hl : PkIs N s l) (a : Sp) (h : vldS a) (ha : a ∉ l.QL.map (·.1)) : Spec Tryz.prog 114 [ptrQ l.p, ekS a] (pkH l) (fun r H' => r = .tuple #[.slice none 0 0, .int .i64 0] ∧ H' = pkH l) := by
  refine Spec.ofM (E := [(0, ptrQ l.p), (1, ekS a)]) Tryz.func114 rfl (by kernel_rfl) Tryz.ntmps114 rfl rfl (fun w => ?_)
  refine WC_seq ?_
  refine WC_region ?_
  refine WL_do rfl rfl rfl (D_box (cs := [_, _]) rfl rfl rfl) ?_
  rintro _ _ ⟨b1, rfl, rfl⟩
  refine WL_val rfl rfl rfl (R_assign rfl rfl) ?_
  refine WL_val rfl rfl rfl (R_assign rfl rfl) ?_
  refine WL_nil ?_
  refine WQ_code ?_
  refine WC_seq ?_
  refine WC_block ?_
  refine WC_seq ?_
  refine WC_region ?_
  refine WL_val rfl rfl rfl (R_move rfl rfl) ?_
  refine WL_do rfl rfl rfl (D_call (pk_zero l) rfl rfl rfl rfl (pqY)) ?_
  rintro _ _ ⟨_, ⟨rfl, rfl⟩, rfl⟩
  refine WL_val rfl rfl rfl (R_assign rfl rfl) ?_
  refine WL_nil ?_
  refine WQ_code ?_
  refine WC_F rfl ?_
  refine WC_seq ?_
  refine WC_region ?_
  refine WL_val rfl rfl rfl (R_loadA (vs := [_, _]) rfl ag108 rfl (mmY) rfl (atZ)) ?_
  refine WL_do rfl rfl rfl (D_call (valid_ok a) rfl rfl rfl rfl (pqY)) ?_
  rintro _ _ ⟨_, ⟨rfl, rfl⟩, rfl⟩
  refine WL_val rfl rfl rfl (R_notD rfl rfl) ?_
  refine WL_val rfl rfl rfl (R_assign rfl rfl) ?_
  refine WL_nil ?_
  refine WQ_code ?_
  refine WC_dF rfl (by simpa using h) ?_
  refine WC_skip ?_
  refine WQ_code ?_
  refine WC_seq ?_
  refine WC_region ?_
  refine WL_do rfl rfl rfl (D_alloc rfl zv34) ?_
  rintro _ _ ⟨b2, rfl, rfl⟩
  refine WL_nil ?_
  refine WQ_code ?_
  refine WC_seq ?_
  refine WC_seq ?_
  refine WC_draw _ [(0, true), (1, true), (2, true), (3, true), (4, true), (5, true), (6, false)] followsMixed rfl rfl (by kernel_rfl) .all ?_
  refine WM_val rfl rfl rfl rfl (R_move rfl rfl) ?_
  refine WM_val rfl rfl rfl rfl (R_nilCheck rfl rfl) ?_
  refine WM_val rfl rfl rfl rfl (R_fieldAddr rfl fa154_2 rfl) ?_
  refine WM_val rfl rfl rfl rfl (R_load rfl sc152 rfl (mmY) rfl) ?_
  refine WM_val rfl rfl rfl rfl (R_loadA (vs := [_, _]) rfl ag108 rfl (mmY) rfl (atZ)) ?_
  refine WM_val rfl rfl rfl rfl (R_lookK0 (k := a) (zv := .pointer none) rfl Tryz.underlying152 spot_key rfl rfl (mmY) hl.mpk ha (fun w => Tryz.zeroValue177 w)) ?_
  refine WM_do rfl rfl rfl rfl (D_call (qall_nil) rfl rfl rfl rfl (pqY)) ?_
  rintro _ _ ⟨_, ⟨bc, rfl, rfl⟩, rfl⟩
  refine ⟨⟨_, pqY⟩, ?_⟩
  refine WM_nil ?_
  refine WQ_code ?_
  refine WC_block ?_
  refine WC_range (G := Unit) (GX := Unit) (qiter_none bc) rfl rfl (fun _ => rfl) rfl (fun pre _ => True) (fun _ => []) (fun _ _ _ => False) (fun _ => []) (()) (trivial) (pqY) (pqY) ?_ ?_ ?_
  · intro l pre x suf gg hx hI w2
    simp at hx
  · intro dl gg hI
    refine WQ_code ?_
    refine WC_seq ?_
    refine WC_region ?_
    refine WL_val rfl rfl rfl (R_load rfl sc34 rfl (mmY) rfl) ?_
    refine WL_val rfl rfl rfl (R_assign rfl rfl) ?_
    refine WL_val rfl rfl rfl (R_assign rfl rfl) ?_
    refine WL_nil ?_
    refine WQ_code ?_
    refine WC_ret ?_
    refine WQ_retM rfl (plY) rfl (.cons (.tmp rfl) (.cons (.tmp rfl) .nil)) rfl (by
        exact ⟨rfl, rfl⟩) (pqY)
  · intro dl c pre gx hIx
    exact hIx.elim
theorem pk_wait_in (N : Nat) (s : PS) (p bs mb : Nat) (t : TkM) (seats : List (Sp × Nat)) (cs : Nat) (ts : List Value) (mes : Array MapEntry) (mc : Nat) (a : Sp) (q : QM) (R : List (Sp × QM)) (hl : PkIs N s ⟨p, bs, mb, t, seats, cs, ts, mes, mc, (a, q) :: R⟩) (h : vldS a) : Spec Tryz.prog 114 [ptrQ p, ekS a] (pkH ⟨p, bs, mb, t, seats, cs, ts, mes, mc, (a, q) :: R⟩)
    (fun r H' => ∃ ob c' tl', r = .tuple #[slV ob (wAt s.W a).length c', .int .i64 0] ∧ Own ob (wAt s.W a).length c' 1 (ivs (wAt s.W a)) tl' ∧ H' = ⟨ob, cl (ivs (wAt s.W a) ++ tl') 3⟩ :: pkH ⟨p, bs, mb, t, seats, cs, ts, mes, mc, (a, q) :: R⟩) := by
  have hq := (hl.q (a, q) (List.mem_cons_self ..)).1
  have hv := (hl.q (a, q) (List.mem_cons_self ..)).2
  have hln := hl.qlen (x := (a, q)) (List.mem_cons_self ..)
  dsimp only at hq hv hln
  refine Spec.ofM (E := [(0, ptrQ p), (1, ekS a)]) Tryz.func114 rfl (by kernel_rfl) Tryz.ntmps114 rfl rfl (fun w => ?_)
  refine WC_seq ?_
  refine WC_region ?_
  refine WL_do rfl rfl rfl (D_box (cs := [_, _]) rfl rfl rfl) ?_
  rintro _ _ ⟨b1, rfl, rfl⟩
  refine WL_val rfl rfl rfl (R_assign rfl rfl) ?_
  refine WL_val rfl rfl rfl (R_assign rfl rfl) ?_
  refine WL_nil ?_
  refine WQ_code ?_
  refine WC_seq ?_
  refine WC_block ?_
  refine WC_seq ?_
  refine WC_region ?_
  refine WL_val rfl rfl rfl (R_move rfl rfl) ?_
  refine WL_do rfl rfl rfl (D_call (pk_zero ⟨p, bs, mb, t, seats, cs, ts, mes, mc, (a, q) :: R⟩) rfl rfl rfl rfl (pqY)) ?_
  rintro _ _ ⟨_, ⟨rfl, rfl⟩, rfl⟩
  refine WL_val rfl rfl rfl (R_assign rfl rfl) ?_
  refine WL_nil ?_
  refine WQ_code ?_
  refine WC_F rfl ?_
  refine WC_seq ?_
  refine WC_region ?_
  refine WL_val rfl rfl rfl (R_loadA (vs := [_, _]) rfl ag108 rfl (mmY) rfl (atZ)) ?_
  refine WL_do rfl rfl rfl (D_call (valid_ok a) rfl rfl rfl rfl (pqY)) ?_
  rintro _ _ ⟨_, ⟨rfl, rfl⟩, rfl⟩
  refine WL_val rfl rfl rfl (R_notD rfl rfl) ?_
  refine WL_val rfl rfl rfl (R_assign rfl rfl) ?_
  refine WL_nil ?_
  refine WQ_code ?_
  refine WC_dF rfl (by simpa using h) ?_
  refine WC_skip ?_
  refine WQ_code ?_
  refine WC_seq ?_
  refine WC_region ?_
  refine WL_do rfl rfl rfl (D_alloc rfl zv34) ?_
  rintro _ _ ⟨b2, rfl, rfl⟩
  refine WL_nil ?_
  refine WQ_code ?_
  refine WC_seq ?_
  refine WC_seq ?_
  refine WC_draw _ [(0, true), (1, true), (2, true), (3, true), (4, true), (5, true), (6, false)] followsMixed rfl rfl (by kernel_rfl) .all ?_
  refine WM_val rfl rfl rfl rfl (R_move rfl rfl) ?_
  refine WM_val rfl rfl rfl rfl (R_nilCheck rfl rfl) ?_
  refine WM_val rfl rfl rfl rfl (R_fieldAddr rfl fa154_2 rfl) ?_
  refine WM_val rfl rfl rfl rfl (R_load rfl sc152 rfl (mmY) rfl) ?_
  refine WM_val rfl rfl rfl rfl (R_loadA (vs := [_, _]) rfl ag108 rfl (mmY) rfl (atZ)) ?_
  refine WM_val rfl rfl rfl rfl (R_lookK (k := a) (a := q) rfl Tryz.underlying152 spot_key rfl rfl (mmY) hl.mpk (List.mem_cons_self ..)) ?_
  refine WM_do rfl rfl rfl rfl (D_call (qall_ok q.p q.mb q.l q.n q.es q.mc) rfl rfl rfl rfl (pqY)) ?_
  rintro _ _ ⟨_, ⟨bc, p2, m2, rfl, rfl⟩, rfl⟩
  refine ⟨⟨_, pqY⟩, ?_⟩
  refine WM_nil ?_
  refine WQ_code ?_
  refine WC_block ?_
  refine WC_none 3 ?_
  refine WC_range (G := RS) (GX := Unit) (qiter_ok bc p2 m2 q.l q.n q.es q.mc hq.qk hq.mp) rfl rfl (fun _ => rfl) rfl (fun pre g => g.l = pre.map (·.2) ∧ pre.length ≤ q.l.length ∧ Own g.ob g.l.length g.c 1 (ivs g.l) g.tl) (fun g => [⟨some b2, cl [slV g.ob g.l.length g.c] 34⟩, ⟨g.ob, cl (ivs g.l ++ g.tl) 3⟩]) (fun _ _ _ => False) (fun _ => []) (⟨[], none, 0, []⟩) (⟨rfl, Nat.zero_le _, Own.empty 1⟩) (pqY) (pqY) ?_ ?_ ?_
  · intro l pre x suf gg hx hI w2
    obtain ⟨hgl, hgn, hown⟩ := hI
    have hlt : pre.length < q.l.length := by rw [hx, List.length_append, List.length_cons]; omega
    have hgl2 : gg.l.length = pre.length := by rw [hgl, List.length_map]
    refine WC_region ?_
    refine WL_val rfl rfl rfl (R_assign rfl rfl) ?_
    refine WL_nil ?_
    refine WQ_begin (fun w3 => ?_)
    refine WC_block ?_
    refine WC_region ?_
    refine WL_val rfl rfl rfl (R_load rfl sc34 rfl (mmY) rfl) ?_
    refine WL_val rfl rfl rfl (R_move rfl rfl) ?_
    refine WL_do rfl rfl rfl (D_buildSlice rfl si34 rfl rfl rfl) ?_
    rintro _ _ ⟨b3, rfl, rfl⟩
    refine WL_do rfl rfl rfl (D_append rfl si34 rfl (hown) (plY) rfl (mmY) ((atZ : At _ 0 [_])) (rfl) (rfl) (by omega) (by omega)) ?_
    rintro _ _ ⟨ob4, cap4, tl4, rfl, own4, rfl⟩
    have hsn : ivs gg.l ++ [Value.int .i64 x.2] = ivs (gg.l ++ [x.2]) := by simp
    rw [hsn] at own4 ⊢
    refine WL_do0 rfl rfl (D_store (vs := [_]) rfl Tryz.sizeOf34 rfl rfl rfl rfl rfl (plY) (by exact Nat.le_of_ble_eq_true rfl)) ?_
    rintro _ _ rfl
    refine WL_nil ?_
    rw [show gg.l.length + 1 = (gg.l ++ [x.2]).length from by rw [List.length_append, List.length_singleton]]
    refine WQ_rnd (⟨gg.l ++ [x.2], ob4, cap4, tl4⟩) ?_ (pqY)
    exact (⟨by rw [hgl, List.map_append]; rfl, by rw [List.length_append, List.length_singleton]; omega, by rw [List.length_append, List.length_singleton]; exact own4⟩)
  · intro dl gg hI
    obtain ⟨hgl, hgn, hown⟩ := hI
    rw [hv] at hgl
    rw [hgl]
    rw [hgl] at hown
    refine WQ_code ?_
    refine WC_seq ?_
    refine WC_region ?_
    refine WL_val rfl rfl rfl (R_load rfl sc34 rfl (mmY) rfl) ?_
    refine WL_val rfl rfl rfl (R_assign rfl rfl) ?_
    refine WL_val rfl rfl rfl (R_assign rfl rfl) ?_
    refine WL_nil ?_
    refine WQ_code ?_
    refine WC_ret ?_
    refine WQ_retM rfl (plY) rfl (.cons (.tmp rfl) (.cons (.tmp rfl) .nil)) rfl (by
        exact ⟨gg.ob, gg.c, gg.tl, rfl, hown, rfl⟩) (pqY)
  · intro dl c pre gx hIx
    exact hIx.elim
theorem pk_waiting (N : Nat) (s : PS) (l : PkM) (hl : PkIs N s l) (a : Sp) : Spec Tryz.prog 114 [ptrQ l.p, ekS a] (pkH l) (fun r H' => ∃ ob c' tl', r = .tuple #[slV ob (s.waiting a).length c', .int .i64 (spE a)] ∧ Own ob (s.waiting a).length c' 1 (ivs (s.waiting a)) tl' ∧ H' = ⟨ob, cl (ivs (s.waiting a) ++ tl') 3⟩ :: pkH l) := by
  unfold PS.waiting spE
  by_cases h : vldS a
  · rw [if_pos h, if_pos h]
    rcases key_or l a with ha | ⟨q, R, hp⟩
    · rw [hl.absent ha]
      exact Spec.none 3 ((pk_wait_no N s l hl a h ha).mono fun r H' ⟨e1, e2⟩ => ⟨⟨none, cl [] 3⟩, ⟨rfl, rfl⟩, none, 0, [], e1, Own.empty 1, by rw [e2]; rfl⟩)
    · have h2 := pk_wait_in N s l.p l.bs l.mb l.t l.seats l.cs l.ts l.mes l.mc a q R (hl.to hp) h
      have hp2 := pkH_perm l hp
      exact Spec.re ((Spec.perm h2 hp2).mono fun r H' ⟨ob, c', tl', e1, e2, e3⟩ => ⟨⟨ob, cl (ivs (wAt s.W a) ++ tl') 3⟩ :: pkH l, by rw [e3]; exact .cons _ hp2.symm, ob, c', tl', e1, e2, rfl⟩)
  · rw [if_neg h, if_neg h]
    exact Spec.none 3 ((pk_wait_bad N s l hl a h).mono fun r H' ⟨e1, e2⟩ => ⟨⟨none, cl [] 3⟩, ⟨rfl, rfl⟩, none, 0, [], e1, Own.empty 1, by rw [e2]; rfl⟩)
end Go.Proofs.YtbkdebnkoidicaaGreat
end
section
set_option linter.unusedVariables false
set_option maxRecDepth 20000
set_option maxHeartbeats 2000000
namespace Go.Proofs.YtbkdebnkoidicaaGreat
theorem pk_park_no (N : Nat) (s : PS) (l : PkM) (hl : PkIs N s l) (i : Int) (a : Sp) (h : s.parkE i a ≠ 0) : Spec Tryz.prog 48 [ptrQ l.p, .int .i64 i, ekS a] (pkH l) (fun r H' => r = .int .i64 (s.parkE i a) ∧ H' = pkH l) := by
  refine Spec.of (E := [(0, ptrQ l.p), (1, .int .i64 i), (2, ekS a)]) Tryz.func48 rfl (by kernel_rfl) Tryz.ntmps48 rfl rfl (fun w => ?_)
  refine WC_seq ?_
  refine WC_region ?_
  refine WL_do rfl rfl rfl (D_box (cs := [_, _]) rfl rfl rfl) ?_
  rintro _ _ ⟨b1, rfl, rfl⟩
  refine WL_val rfl rfl rfl (R_assign rfl rfl) ?_
  refine WL_nil ?_
  refine WQ_code ?_
  refine WC_seq ?_
  refine WC_region ?_
  refine WL_val rfl rfl rfl (R_move rfl rfl) ?_
  refine WL_val rfl rfl rfl (R_move rfl rfl) ?_
  refine WL_do rfl rfl rfl (D_call (pk_state N s l hl i) rfl rfl rfl rfl (pqY)) ?_
  rintro _ _ ⟨_, ⟨rfl, rfl⟩, rfl⟩
  refine WL_val rfl rfl rfl (R_move rfl rfl) ?_
  refine WL_val rfl rfl rfl (R_extract rfl rfl rfl) ?_
  refine WL_val rfl rfl rfl (R_extract rfl rfl rfl) ?_
  refine WL_val rfl rfl rfl (R_assign rfl rfl) ?_
  refine WL_val rfl rfl rfl (R_assign rfl rfl) ?_
  refine WL_nil ?_
  refine WQ_code ?_
  refine WC_seq ?_
  refine WC_block ?_
  refine WC_seq ?_
  refine WC_region ?_
  refine WL_val rfl rfl rfl (R_move rfl rfl) ?_
  refine WL_val rfl rfl rfl (R_neq rfl rfl rfl) ?_
  refine WL_val rfl rfl rfl (R_assign rfl rfl) ?_
  refine WL_nil ?_
  refine WQ_code ?_
  refine WC_dec rfl (fun c1 => ?_) (fun c1 => ?_)
  · have e9 : s.parkE i a = (stR s.sm i).2 := by unfold PS.parkE; rw [if_pos c1]
    refine WC_seq ?_
    refine WC_region ?_
    refine WL_val rfl rfl rfl (R_move rfl rfl) ?_
    refine WL_val rfl rfl rfl (R_assign rfl rfl) ?_
    refine WL_nil ?_
    refine WQ_code ?_
    refine WC_ret ?_
    refine WQ_ret rfl rfl (.cons (.tmp rfl) .nil) rfl (by
        exact ⟨by rw [e9]; rfl, rfl⟩) (pqY)
  · have h0 : (stR s.sm i).2 = 0 := Decidable.not_not.1 c1
    refine WC_seq ?_
    refine WC_region ?_
    refine WL_val rfl rfl rfl (R_loadA (vs := [_, _]) rfl ag108 rfl (mmY) rfl (atZ)) ?_
    refine WL_do rfl rfl rfl (D_call (valid_ok a) rfl rfl rfl rfl (pqY)) ?_
    rintro _ _ ⟨_, ⟨rfl, rfl⟩, rfl⟩
    refine WL_val rfl rfl rfl (R_notD rfl rfl) ?_
    refine WL_val rfl rfl rfl (R_assign rfl rfl) ?_
    refine WL_nil ?_
    refine WQ_code ?_
    refine WC_dec rfl (fun c2 => ?_) (fun c2 => ?_)
    · have e9 : s.parkE i a = 2 := by unfold PS.parkE; rw [if_neg (fun e => e h0), if_neg c2]
      refine WC_seq ?_
      refine WC_region ?_
      refine WL_val rfl rfl rfl (R_assign rfl rfl) ?_
      refine WL_nil ?_
      refine WQ_code ?_
      refine WC_ret ?_
      refine WQ_ret rfl rfl (.cons (.tmp rfl) .nil) rfl (by
          exact ⟨by rw [e9]; rfl, rfl⟩) (pqY)
    · have hv9 : vldS a := Decidable.not_not.1 c2
      refine WC_seq ?_
      refine WC_region ?_
      refine WL_val rfl rfl rfl (R_move rfl rfl) ?_
      refine WL_val rfl rfl rfl (R_neq rfl rfl rfl) ?_
      refine WL_val rfl rfl rfl (R_assign rfl rfl) ?_
      refine WL_nil ?_
      refine WQ_code ?_
      refine WC_dec rfl (fun c3 => ?_) (fun c3 => ?_)
      · have e9 : s.parkE i a = 8 := by unfold PS.parkE; rw [if_neg (fun e => e h0), if_pos hv9, if_neg c3]
        refine WC_seq ?_
        refine WC_region ?_
        refine WL_val rfl rfl rfl (R_assign rfl rfl) ?_
        refine WL_nil ?_
        refine WQ_code ?_
        refine WC_ret ?_
        refine WQ_ret rfl rfl (.cons (.tmp rfl) .nil) rfl (by
            exact ⟨by rw [e9]; rfl, rfl⟩) (pqY)
      · exact absurd (by unfold PS.parkE; rw [if_neg (fun e => e h0), if_pos hv9, if_pos (Decidable.not_not.1 c3)]) h
theorem pk_park_in (N : Nat) (s : PS) (p bs mb : Nat) (t : TkM) (seats : List (Sp × Nat)) (cs : Nat) (ts : List Value) (mes : Array MapEntry) (mc : Nat) (a : Sp) (q : QM) (R : List (Sp × QM)) (hl : PkIs N s ⟨p, bs, mb, t, seats, cs, ts, mes, mc, (a, q) :: R⟩) (hN : N < 900000) (i : Nat) (hi : s.sm[i]? = some 1) (h : vldS a) : Spec Tryz.prog 48 [ptrQ p, .int .i64 (i : Int), ekS a] (pkH ⟨p, bs, mb, t, seats, cs, ts, mes, mc, (a, q) :: R⟩) (fun r H' => ∃ l' : PkM, r = .int .i64 0 ∧ H' = pkH l' ∧ l'.p = p ∧ PkIs (N + 1) (s.add i a) l') := by
  have hq := (hl.q (a, q) (List.mem_cons_self ..)).1
  have hln := hl.qlen (x := (a, q)) (List.mem_cons_self ..)
  have hqn := hq.n
  have htn := hl.tn
  have hsl : seats.length = s.sm.length := hl.ln
  have hil := (List.getElem?_eq_some_iff.1 hi).1
  obtain ⟨st0, hst⟩ := exE (T := seats) (i := i) (by omega)
  dsimp only at hq hln hqn htn
  refine Spec.of (E := [(0, ptrQ p), (1, .int .i64 (i : Int)), (2, ekS a)]) Tryz.func48 rfl (by kernel_rfl) Tryz.ntmps48 rfl rfl (fun w => ?_)
  refine WC_seq ?_
  refine WC_region ?_
  refine WL_do rfl rfl rfl (D_box (cs := [_, _]) rfl rfl rfl) ?_
  rintro _ _ ⟨b1, rfl, rfl⟩
  refine WL_val rfl rfl rfl (R_assign rfl rfl) ?_
  refine WL_nil ?_
  refine WQ_code ?_
  refine WC_seq ?_
  refine WC_region ?_
  refine WL_val rfl rfl rfl (R_move rfl rfl) ?_
  refine WL_val rfl rfl rfl (R_move rfl rfl) ?_
  refine WL_do rfl rfl rfl (D_call (pk_state N s ⟨p, bs, mb, t, seats, cs, ts, mes, mc, (a, q) :: R⟩ hl (i : Int)) rfl rfl rfl rfl (pqY)) ?_
  rintro _ _ ⟨_, ⟨rfl, rfl⟩, rfl⟩
  refine WL_val rfl rfl rfl (R_move rfl rfl) ?_
  refine WL_val rfl rfl rfl (R_extract rfl rfl rfl) ?_
  refine WL_val rfl rfl rfl (R_extract rfl rfl rfl) ?_
  refine WL_val rfl rfl rfl (R_assign rfl rfl) ?_
  refine WL_val rfl rfl rfl (R_assign rfl rfl) ?_
  refine WL_nil ?_
  refine WQ_code ?_
  refine WC_seq ?_
  refine WC_block ?_
  refine WC_seq ?_
  refine WC_region ?_
  refine WL_val rfl rfl rfl (R_move rfl rfl) ?_
  refine WL_val rfl rfl rfl (R_neq rfl rfl rfl) ?_
  refine WL_val rfl rfl rfl (R_assign rfl rfl) ?_
  refine WL_nil ?_
  refine WQ_code ?_
  refine WC_dF rfl (by rw [stR_in hi]; decide) ?_
  refine WC_seq ?_
  refine WC_region ?_
  refine WL_val rfl rfl rfl (R_loadA (vs := [_, _]) rfl ag108 rfl (mmY) rfl (atZ)) ?_
  refine WL_do rfl rfl rfl (D_call (valid_ok a) rfl rfl rfl rfl (pqY)) ?_
  rintro _ _ ⟨_, ⟨rfl, rfl⟩, rfl⟩
  refine WL_val rfl rfl rfl (R_notD rfl rfl) ?_
  refine WL_val rfl rfl rfl (R_assign rfl rfl) ?_
  refine WL_nil ?_
  refine WQ_code ?_
  refine WC_dF rfl (by simpa using h) ?_
  refine WC_seq ?_
  refine WC_region ?_
  refine WL_val rfl rfl rfl (R_move rfl rfl) ?_
  refine WL_val rfl rfl rfl (R_neq rfl rfl rfl) ?_
  refine WL_val rfl rfl rfl (R_assign rfl rfl) ?_
  refine WL_nil ?_
  refine WQ_code ?_
  refine WC_dF rfl (by rw [stR_in hi]; decide) ?_
  refine WC_skip ?_
  refine WQ_code ?_
  refine WC_seq ?_
  refine WC_draw _ [(0, true), (1, true), (2, true), (3, true), (4, true), (5, true), (6, true)] followsMixed rfl rfl (by kernel_rfl) .all ?_
  refine WM_val rfl rfl rfl rfl (R_move rfl rfl) ?_
  refine WM_val rfl rfl rfl rfl (R_nilCheck rfl rfl) ?_
  refine WM_val rfl rfl rfl rfl (R_fieldAddr rfl fa154_2 rfl) ?_
  refine WM_val rfl rfl rfl rfl (R_load rfl sc152 rfl (mmY) rfl) ?_
  refine WM_val rfl rfl rfl rfl (R_loadA (vs := [_, _]) rfl ag108 rfl (mmY) rfl (atZ)) ?_
  refine WM_val rfl rfl rfl rfl (R_lookK (k := a) (a := q) rfl Tryz.underlying152 spot_key rfl rfl (mmY) hl.mpk (List.mem_cons_self ..)) ?_
  refine WM_val rfl rfl rfl rfl (R_assign rfl rfl) ?_
  refine WM_nil ?_
  refine WQ_code ?_
  refine WC_seq ?_
  refine WC_seq ?_
  refine WC_region ?_
  refine WL_val rfl rfl rfl (R_move rfl rfl) ?_
  refine WL_val rfl rfl rfl (R_ptrEqNil rfl Tryz.underlying177 rfl) ?_
  refine WL_nil ?_
  refine WQ_code ?_
  refine WC_F rfl ?_
  refine WC_skip ?_
  refine WQ_code ?_
  refine WC_seq ?_
  refine WC_region ?_
  refine WL_val rfl rfl rfl (R_move rfl rfl) ?_
  refine WL_val rfl rfl rfl (R_move rfl rfl) ?_
  refine WL_do rfl rfl rfl (D_call (qpush_ok q.p q.mb q.l q.n q.es q.mc hq.qk hq.mp (by omega) (by omega) (i : Int)) rfl rfl rfl rfl (pqY)) ?_
  rintro _ _ ⟨_, ⟨es', mq', rfl, rfl, hM'⟩, rfl⟩
  refine WL_val rfl rfl rfl (R_move rfl rfl) ?_
  refine WL_val rfl rfl rfl (R_extract rfl rfl rfl) ?_
  refine WL_val rfl rfl rfl (R_extract rfl rfl rfl) ?_
  refine WL_val rfl rfl rfl (R_assign rfl rfl) ?_
  refine WL_val rfl rfl rfl (R_assign rfl rfl) ?_
  refine WL_nil ?_
  refine WQ_code ?_
  refine WC_seq ?_
  refine WC_seq ?_
  refine WC_region ?_
  refine WL_val rfl rfl rfl (R_move rfl rfl) ?_
  refine WL_val rfl rfl rfl (R_neq rfl rfl rfl) ?_
  refine WL_nil ?_
  refine WQ_code ?_
  refine WC_dF rfl (by decide) ?_
  refine WC_skip ?_
  refine WQ_code ?_
  refine WC_seq ?_
  refine WC_drawR [⟨some bs, _⟩] [(0, true), (1, true), (2, true), (3, true), (4, true), (5, true), (6, true), (7, true), (8, true), (9, false)] followsMixed rfl rfl (by kernel_rfl) (pqY) ?_
  refine WM_val rfl rfl rfl rfl (R_move rfl rfl) ?_
  refine WM_val rfl rfl rfl rfl (R_nilCheck rfl rfl) ?_
  refine WM_val rfl rfl rfl rfl (R_fieldAddr rfl fa154_1 rfl) ?_
  refine WM_val rfl rfl rfl rfl (R_load rfl sc151 rfl (mmY) rfl) ?_
  refine WM_val rfl rfl rfl rfl (R_move rfl rfl) ?_
  refine WM_val rfl rfl rfl rfl (R_loadA (vs := [_, _]) rfl ag108 rfl (mmY) rfl (atZ)) ?_
  refine WM_val rfl rfl rfl rfl (R_move rfl rfl) ?_
  refine WM_val rfl rfl rfl rfl (R_build rfl zv182 pl182 rfl rfl) ?_
  refine WM_val rfl rfl rfl rfl (R_indexAddrN rfl Tryz.underlying151 Tryz.sizeOf182 rfl rfl (by dsimp only; omega)) ?_
  refine WM_do0 rfl rfl rfl (D_store (vs := [_, _, _]) rfl Tryz.sizeOf182 rfl rfl rfl rfl rfl (plY) (by exact fm_room0 encSeat3 (show i < seats.length by omega) (j := 0) (by omega))) ?_
  rintro _ _ rfl
  refine ⟨⟨_, pqY⟩, ?_⟩
  have hput := fm_put0 encSeat3 ((a.1, a.2), q.n + 1) hst (j := 0) (vs := [.int .i64 a.1, .int .i64 a.2, .int .u64 ((q.n + 1 : Nat) : Int)]) (by simp) rfl (tl := ts)
  rw [Nat.add_zero] at hput
  dsimp only
  rw [hput, show seats.length = (seats.set i ((a.1, a.2), q.n + 1)).length from List.length_set.symm]
  refine WM_nil ?_
  refine WQ_code ?_
  refine WC_seq ?_
  refine WC_region ?_
  refine WL_val rfl rfl rfl (R_move rfl rfl) ?_
  refine WL_val rfl rfl rfl (R_nilCheck rfl rfl) ?_
  refine WL_val rfl rfl rfl (R_fieldAddr rfl fa154_0 rfl) ?_
  refine WL_val rfl rfl rfl (R_load rfl sc148 rfl (mmY) rfl) ?_
  refine WL_val rfl rfl rfl (R_move rfl rfl) ?_
  refine WL_do rfl rfl rfl (D_call (tk_park t s.sm s.qm hl.tk (by omega) (i : Int)) rfl rfl rfl rfl (pqY)) ?_
  rintro _ _ ⟨_, ⟨t', rfl, rfl, htp, htn', ht'⟩, rfl⟩
  rw [← htp]
  refine WL_val rfl rfl rfl (R_assign rfl rfl) ?_
  refine WL_nil ?_
  refine WQ_code ?_
  refine WC_ret ?_
  refine WQ_ret rfl rfl (.cons (.tmp rfl) .nil) rfl (by
      exact ⟨⟨p, bs, mb, t', seats.set i (a, q.n + 1), cs, ts, mes, mc, (a, ⟨q.p, q.mb, _, q.n + 1, es', mq'⟩) :: R⟩, by rw [stepR_ok hi]; rfl, rfl, rfl, hl.push rfl hi h ht' (by omega) rfl rfl rfl hM'⟩) (pqY)
theorem pk_park_out (N : Nat) (s : PS) (p bs mb : Nat) (t : TkM) (seats : List (Sp × Nat)) (cs : Nat) (ts : List Value) (mes : Array MapEntry) (mc : Nat) (a : Sp) (QL : List (Sp × QM)) (hl : PkIs N s ⟨p, bs, mb, t, seats, cs, ts, mes, mc, QL⟩) (ha : a ∉ QL.map (·.1)) (hN : N < 900000) (i : Nat) (hi : s.sm[i]? = some 1) (h : vldS a) : Spec Tryz.prog 48 [ptrQ p, .int .i64 (i : Int), ekS a] (pkH ⟨p, bs, mb, t, seats, cs, ts, mes, mc, QL⟩) (fun r H' => ∃ l' : PkM, r = .int .i64 0 ∧ H' = pkH l' ∧ l'.p = p ∧ PkIs (N + 1) (s.add i a) l') := by
  have htn := hl.tn
  have hsl : seats.length = s.sm.length := hl.ln
  have hil := (List.getElem?_eq_some_iff.1 hi).1
  obtain ⟨st0, hst⟩ := exE (T := seats) (i := i) (by omega)
  dsimp only at htn
  refine Spec.of (E := [(0, ptrQ p), (1, .int .i64 (i : Int)), (2, ekS a)]) Tryz.func48 rfl (by kernel_rfl) Tryz.ntmps48 rfl rfl (fun w => ?_)
  refine WC_seq ?_
  refine WC_region ?_
  refine WL_do rfl rfl rfl (D_box (cs := [_, _]) rfl rfl rfl) ?_
  rintro _ _ ⟨b1, rfl, rfl⟩
  refine WL_val rfl rfl rfl (R_assign rfl rfl) ?_
  refine WL_nil ?_
  refine WQ_code ?_
  refine WC_seq ?_
  refine WC_region ?_
  refine WL_val rfl rfl rfl (R_move rfl rfl) ?_
  refine WL_val rfl rfl rfl (R_move rfl rfl) ?_
  refine WL_do rfl rfl rfl (D_call (pk_state N s ⟨p, bs, mb, t, seats, cs, ts, mes, mc, QL⟩ hl (i : Int)) rfl rfl rfl rfl (pqY)) ?_
  rintro _ _ ⟨_, ⟨rfl, rfl⟩, rfl⟩
  refine WL_val rfl rfl rfl (R_move rfl rfl) ?_
  refine WL_val rfl rfl rfl (R_extract rfl rfl rfl) ?_
  refine WL_val rfl rfl rfl (R_extract rfl rfl rfl) ?_
  refine WL_val rfl rfl rfl (R_assign rfl rfl) ?_
  refine WL_val rfl rfl rfl (R_assign rfl rfl) ?_
  refine WL_nil ?_
  refine WQ_code ?_
  refine WC_seq ?_
  refine WC_block ?_
  refine WC_seq ?_
  refine WC_region ?_
  refine WL_val rfl rfl rfl (R_move rfl rfl) ?_
  refine WL_val rfl rfl rfl (R_neq rfl rfl rfl) ?_
  refine WL_val rfl rfl rfl (R_assign rfl rfl) ?_
  refine WL_nil ?_
  refine WQ_code ?_
  refine WC_dF rfl (by rw [stR_in hi]; decide) ?_
  refine WC_seq ?_
  refine WC_region ?_
  refine WL_val rfl rfl rfl (R_loadA (vs := [_, _]) rfl ag108 rfl (mmY) rfl (atZ)) ?_
  refine WL_do rfl rfl rfl (D_call (valid_ok a) rfl rfl rfl rfl (pqY)) ?_
  rintro _ _ ⟨_, ⟨rfl, rfl⟩, rfl⟩
  refine WL_val rfl rfl rfl (R_notD rfl rfl) ?_
  refine WL_val rfl rfl rfl (R_assign rfl rfl) ?_
  refine WL_nil ?_
  refine WQ_code ?_
  refine WC_dF rfl (by simpa using h) ?_
  refine WC_seq ?_
  refine WC_region ?_
  refine WL_val rfl rfl rfl (R_move rfl rfl) ?_
  refine WL_val rfl rfl rfl (R_neq rfl rfl rfl) ?_
  refine WL_val rfl rfl rfl (R_assign rfl rfl) ?_
  refine WL_nil ?_
  refine WQ_code ?_
  refine WC_dF rfl (by rw [stR_in hi]; decide) ?_
  refine WC_skip ?_
  refine WQ_code ?_
  refine WC_seq ?_
  refine WC_draw _ [(0, true), (1, true), (2, true), (3, true), (4, true), (5, true), (6, true)] followsMixed rfl rfl (by kernel_rfl) .all ?_
  refine WM_val rfl rfl rfl rfl (R_move rfl rfl) ?_
  refine WM_val rfl rfl rfl rfl (R_nilCheck rfl rfl) ?_
  refine WM_val rfl rfl rfl rfl (R_fieldAddr rfl fa154_2 rfl) ?_
  refine WM_val rfl rfl rfl rfl (R_load rfl sc152 rfl (mmY) rfl) ?_
  refine WM_val rfl rfl rfl rfl (R_loadA (vs := [_, _]) rfl ag108 rfl (mmY) rfl (atZ)) ?_
  refine WM_val rfl rfl rfl rfl (R_lookK0 (k := a) (zv := .pointer none) rfl Tryz.underlying152 spot_key rfl rfl (mmY) hl.mpk ha (fun w => Tryz.zeroValue177 w)) ?_
  refine WM_val rfl rfl rfl rfl (R_assign rfl rfl) ?_
  refine WM_nil ?_
  refine WQ_code ?_
  refine WC_seq ?_
  refine WC_seq ?_
  refine WC_region ?_
  refine WL_val rfl rfl rfl (R_move rfl rfl) ?_
  refine WL_val rfl rfl rfl (R_ptrEqNil rfl Tryz.underlying177 rfl) ?_
  refine WL_nil ?_
  refine WQ_code ?_
  refine WC_T rfl ?_
  refine WC_seq ?_
  refine WC_region ?_
  refine WL_do rfl rfl rfl (D_call (qnew_ok) rfl rfl rfl rfl (pqY)) ?_
  rintro _ _ ⟨_, ⟨pq, pm, rfl, rfl⟩, rfl⟩
  refine WL_val rfl rfl rfl (R_assign rfl rfl) ?_
  refine WL_nil ?_
  refine WQ_code ?_
  refine WC_drawR [⟨some mb, _⟩] [(0, true), (1, true), (2, true), (3, true), (4, true), (5, true), (6, false)] followsMixed rfl rfl (by kernel_rfl) (pqY) ?_
  refine WM_val rfl rfl rfl rfl (R_move rfl rfl) ?_
  refine WM_val rfl rfl rfl rfl (R_nilCheck rfl rfl) ?_
  refine WM_val rfl rfl rfl rfl (R_fieldAddr rfl fa154_2 rfl) ?_
  refine WM_val rfl rfl rfl rfl (R_load rfl sc152 rfl (mmY) rfl) ?_
  refine WM_val rfl rfl rfl rfl (R_loadA (vs := [_, _]) rfl ag108 rfl (mmY) rfl (atZ)) ?_
  refine WM_val rfl rfl rfl rfl (R_move rfl rfl) ?_
  refine WM_do0 rfl rfl rfl (D_mapAddK (k := a) (v := (⟨pq, pm, [], 0, #[], 0⟩ : QM)) rfl Tryz.underlying152 spot_key rfl rfl rfl (plY) hl.mpk ha) ?_
  rintro _ _ ⟨mes', hmk', rfl⟩
  refine ⟨⟨_, pqY⟩, ?_⟩
  have hl2 := hl.addkey ha pq pm hmk'
  refine WM_nil ?_
  refine WQ_code ?_
  refine WC_seq ?_
  refine WC_region ?_
  refine WL_val rfl rfl rfl (R_move rfl rfl) ?_
  refine WL_val rfl rfl rfl (R_move rfl rfl) ?_
  refine WL_do rfl rfl rfl (D_call (qpush_ok pq pm [] 0 #[] 0 (Qk.empty 0) mp_new (by decide) (by decide) (i : Int)) rfl rfl rfl rfl (pqY)) ?_
  rintro _ _ ⟨_, ⟨es', mq', rfl, rfl, hM'⟩, rfl⟩
  refine WL_val rfl rfl rfl (R_move rfl rfl) ?_
  refine WL_val rfl rfl rfl (R_extract rfl rfl rfl) ?_
  refine WL_val rfl rfl rfl (R_extract rfl rfl rfl) ?_
  refine WL_val rfl rfl rfl (R_assign rfl rfl) ?_
  refine WL_val rfl rfl rfl (R_assign rfl rfl) ?_
  refine WL_nil ?_
  refine WQ_code ?_
  refine WC_seq ?_
  refine WC_seq ?_
  refine WC_region ?_
  refine WL_val rfl rfl rfl (R_move rfl rfl) ?_
  refine WL_val rfl rfl rfl (R_neq rfl rfl rfl) ?_
  refine WL_nil ?_
  refine WQ_code ?_
  refine WC_dF rfl (by decide) ?_
  refine WC_skip ?_
  refine WQ_code ?_
  refine WC_seq ?_
  refine WC_drawR [⟨some bs, _⟩] [(0, true), (1, true), (2, true), (3, true), (4, true), (5, true), (6, true), (7, true), (8, true), (9, false)] followsMixed rfl rfl (by kernel_rfl) (pqY) ?_
  refine WM_val rfl rfl rfl rfl (R_move rfl rfl) ?_
  refine WM_val rfl rfl rfl rfl (R_nilCheck rfl rfl) ?_
  refine WM_val rfl rfl rfl rfl (R_fieldAddr rfl fa154_1 rfl) ?_
  refine WM_val rfl rfl rfl rfl (R_load rfl sc151 rfl (mmY) rfl) ?_
  refine WM_val rfl rfl rfl rfl (R_move rfl rfl) ?_
  refine WM_val rfl rfl rfl rfl (R_loadA (vs := [_, _]) rfl ag108 rfl (mmY) rfl (atZ)) ?_
  refine WM_val rfl rfl rfl rfl (R_move rfl rfl) ?_
  refine WM_val rfl rfl rfl rfl (R_build rfl zv182 pl182 rfl rfl) ?_
  refine WM_val rfl rfl rfl rfl (R_indexAddrN rfl Tryz.underlying151 Tryz.sizeOf182 rfl rfl (by dsimp only; omega)) ?_
  refine WM_do0 rfl rfl rfl (D_store (vs := [_, _, _]) rfl Tryz.sizeOf182 rfl rfl rfl rfl rfl (plY) (by exact fm_room0 encSeat3 (show i < seats.length by omega) (j := 0) (by omega))) ?_
  rintro _ _ rfl
  refine ⟨⟨_, pqY⟩, ?_⟩
  have hput := fm_put0 encSeat3 ((a.1, a.2), 0 + 1) hst (j := 0) (vs := [.int .i64 a.1, .int .i64 a.2, .int .u64 ((0 + 1 : Nat) : Int)]) (by simp) rfl (tl := ts)
  rw [Nat.add_zero] at hput
  dsimp only
  rw [hput, show seats.length = (seats.set i ((a.1, a.2), 0 + 1)).length from List.length_set.symm]
  refine WM_nil ?_
  refine WQ_code ?_
  refine WC_seq ?_
  refine WC_region ?_
  refine WL_val rfl rfl rfl (R_move rfl rfl) ?_
  refine WL_val rfl rfl rfl (R_nilCheck rfl rfl) ?_
  refine WL_val rfl rfl rfl (R_fieldAddr rfl fa154_0 rfl) ?_
  refine WL_val rfl rfl rfl (R_load rfl sc148 rfl (mmY) rfl) ?_
  refine WL_val rfl rfl rfl (R_move rfl rfl) ?_
  refine WL_do rfl rfl rfl (D_call (tk_park t s.sm s.qm hl.tk (by omega) (i : Int)) rfl rfl rfl rfl (pqY)) ?_
  rintro _ _ ⟨_, ⟨t', rfl, rfl, htp, htn', ht'⟩, rfl⟩
  rw [← htp]
  refine WL_val rfl rfl rfl (R_assign rfl rfl) ?_
  refine WL_nil ?_
  refine WQ_code ?_
  refine WC_ret ?_
  refine WQ_ret rfl rfl (.cons (.tmp rfl) .nil) rfl (by
      exact ⟨⟨p, bs, mb, t', seats.set i (a, 0 + 1), cs, ts, mes', mc + 1, (a, ⟨pq, pm, _, 0 + 1, es', mq'⟩) :: QL⟩, by rw [stepR_ok hi]; rfl, rfl, rfl, hl2.push rfl hi h ht' (by omega) rfl rfl rfl hM'⟩) (pqY)
theorem pk_park (N : Nat) (s : PS) (l : PkM) (hl : PkIs N s l) (hN : N < 900000) (i : Int) (a : Sp) : Spec Tryz.prog 48 [ptrQ l.p, .int .i64 i, ekS a] (pkH l) (fun r H' => ∃ l' : PkM, r = .int .i64 (s.parkE i a) ∧ H' = pkH l' ∧ l'.p = l.p ∧ PkIs (N + 1) (s.park i a) l') := by
  by_cases h : s.parkE i a = 0
  · have h2 := h
    unfold PS.parkE at h2
    by_cases h0 : (stR s.sm i).2 = 0
    · rw [if_neg (fun e => e h0)] at h2
      obtain ⟨j, x, rfl, hx, hst⟩ := stR_some h0
      by_cases ha : vldS a
      · rw [if_pos ha] at h2
        by_cases h1 : (stR s.sm (j : Int)).1 = 1
        · have hj : s.sm[j]? = some 1 := by rw [hx, ← hst, h1]
          obtain ⟨e1, e2⟩ := park_ok' hl.ps hj ha
          rw [e1, e2]
          rcases key_or l a with hk | ⟨q, R, hp⟩
          · exact pk_park_out N s l.p l.bs l.mb l.t l.seats l.cs l.ts l.mes l.mc a l.QL hl hk hN j hj ha
          · exact Spec.perm (pk_park_in N s l.p l.bs l.mb l.t l.seats l.cs l.ts l.mes l.mc a q R (hl.to hp) hN j hj ha) (pkH_perm l hp)
        · rw [if_neg h1] at h2; cases h2
      · rw [if_neg ha] at h2; cases h2
    · rw [if_pos h0] at h2; exact absurd h2 h0
  · rw [park_no s h]
    exact (pk_park_no N s l hl i a h).mono fun r H' ⟨e1, e2⟩ => ⟨l, e1, e2, rfl, hl.mono (Nat.le_succ N)⟩
theorem pk_out0 (N : Nat) (s : PS) (p bs mb : Nat) (t : TkM) (seats : List (Sp × Nat)) (cs : Nat) (ts : List Value) (mes : Array MapEntry) (mc : Nat) (z : Wt) (hz : z ∈ s.W) (tk : Nat) (q : QM) (R : List (Sp × QM)) (A B : List (Nat × Int)) (hl : PkIs N s ⟨p, bs, mb, t, seats, cs, ts, mes, mc, (z.at_, q) :: R⟩) (hst : seats[z.i]? = some (z.at_, tk)) (hqe : q.l = A ++ (tk, (z.i : Int)) :: B) (hN : N < 900000) : Spec Tryz.prog 115 [ptrQ p, .int .i64 (z.i : Int)] (pkH ⟨p, bs, mb, t, seats, cs, ts, mes, mc, (z.at_, q) :: R⟩) (fun r H' => ∃ l' : PkM, r = .tuple #[] ∧ H' = pkH l' ∧ l'.p = p ∧ PkIs (N + 1) (s.out z.i) l') := by
  have hq := (hl.q (z.at_, q) (List.mem_cons_self ..)).1
  have htn := hl.tn
  have hlt := (List.getElem?_eq_some_iff.1 hst).1
  obtain ⟨qp, qb, ql, qn, qes, qmc⟩ := q
  dsimp only at hq htn hqe
  subst hqe
  have hqk : Qk (A ++ (tk, (z.i : Int)) :: B) qn := hq.qk
  have hqm : Mp (.int .u64) ekQ evQ qes (nds 0 0 (A ++ (tk, (z.i : Int)) :: B)) := hq.mp
  refine Spec.of (E := [(0, ptrQ p), (1, .int .i64 (z.i : Int))]) Tryz.func115 rfl (by kernel_rfl) Tryz.ntmps115 rfl rfl (fun w => ?_)
  refine WC_seq ?_
  refine WC_region ?_
  refine WL_val rfl rfl rfl (R_move rfl rfl) ?_
  refine WL_val rfl rfl rfl (R_nilCheck rfl rfl) ?_
  refine WL_val rfl rfl rfl (R_fieldAddr rfl fa154_1 rfl) ?_
  refine WL_val rfl rfl rfl (R_load rfl sc151 rfl (mmY) rfl) ?_
  refine WL_val rfl rfl rfl (R_move rfl rfl) ?_
  refine WL_val rfl rfl rfl (R_indexAddrN rfl Tryz.underlying151 Tryz.sizeOf182 rfl rfl (by omega)) ?_
  refine WL_val rfl rfl rfl (R_loadA (vs := encSeat (z.at_, tk)) rfl ag182 rfl (mmY) rfl (fm_at0 encSeat3 hst (j := 0) (vs := encSeat (z.at_, tk)) (fun j v h => by rw [Nat.zero_add]; exact h) (Nat.le_refl 3))) ?_
  refine WL_do rfl rfl rfl (D_alloc rfl zv182) ?_
  rintro _ _ ⟨b1, rfl, rfl⟩
  refine WL_do0 rfl rfl (D_store (vs := [_, _, _]) rfl Tryz.sizeOf182 rfl rfl rfl rfl rfl (plY) (by exact Nat.le_of_ble_eq_true rfl)) ?_
  rintro _ _ rfl
  refine WL_nil ?_
  refine WQ_code ?_
  refine WC_seq ?_
  refine WC_drawR [⟨some qp, _⟩, ⟨some qb, _⟩] [(0, true), (1, true), (2, true), (3, true), (4, true), (5, true), (6, true), (7, true), (8, true), (9, false)] followsMixed rfl rfl (by kernel_rfl) (pqY) ?_
  refine WM_val rfl rfl rfl rfl (R_move rfl rfl) ?_
  refine WM_val rfl rfl rfl rfl (R_nilCheck rfl rfl) ?_
  refine WM_val rfl rfl rfl rfl (R_fieldAddr rfl fa154_2 rfl) ?_
  refine WM_val rfl rfl rfl rfl (R_load rfl sc152 rfl (mmY) rfl) ?_
  refine WM_val rfl rfl rfl rfl (R_fieldAddr rfl fa182_0 rfl) ?_
  refine WM_val rfl rfl rfl rfl (R_loadA (vs := [_, _]) rfl ag108 rfl (mmY) rfl (atZ)) ?_
  refine WM_val rfl rfl rfl rfl (R_lookK (k := z.at_) (a := (⟨qp, qb, A ++ (tk, (z.i : Int)) :: B, qn, qes, qmc⟩ : QM)) rfl Tryz.underlying152 spot_key rfl rfl (mmY) hl.mpk (List.mem_cons_self ..)) ?_
  refine WM_val rfl rfl rfl rfl (R_fieldAddr rfl fa182_1 rfl) ?_
  refine WM_val rfl rfl rfl rfl (R_load rfl sc27 rfl (mmY) rfl) ?_
  refine WM_do rfl rfl rfl rfl (D_call (qrem_ok qp qb A B tk (z.i : Int) qn qes qmc hqk hqm) rfl rfl rfl rfl (pqY)) ?_
  rintro _ _ ⟨_, ⟨es', mq', rfl, rfl, hM'⟩, rfl⟩
  refine ⟨⟨_, pqY⟩, ?_⟩
  refine WM_nil ?_
  refine WQ_code ?_
  refine WC_region ?_
  refine WL_val rfl rfl rfl (R_move rfl rfl) ?_
  refine WL_val rfl rfl rfl (R_nilCheck rfl rfl) ?_
  refine WL_val rfl rfl rfl (R_fieldAddr rfl fa154_0 rfl) ?_
  refine WL_val rfl rfl rfl (R_load rfl sc148 rfl (mmY) rfl) ?_
  refine WL_val rfl rfl rfl (R_move rfl rfl) ?_
  refine WL_do rfl rfl rfl (D_call (tk_wake t s.sm s.qm hl.tk (by omega) (z.i : Int)) rfl rfl rfl rfl (pqY)) ?_
  rintro _ _ ⟨_, ⟨t', rfl, rfl, htp, htn', ht'⟩, rfl⟩
  rw [← htp]
  refine WL_nil ?_
  refine WQ_ret rfl rfl .nil rfl (by
      exact ⟨⟨p, bs, mb, t', seats, cs, ts, mes, mc, (z.at_, ⟨qp, qb, A ++ B, qn, es', mq'⟩) :: R⟩, rfl, rfl, rfl, hl.pop hz rfl rfl ht' (by omega) rfl rfl rfl hM'⟩) (pqY)
theorem pk_out (N : Nat) (s : PS) (l : PkM) (hl : PkIs N s l) (hN : N < 900000) (z : Wt) (hz : z ∈ s.W) : Spec Tryz.prog 115 [ptrQ l.p, .int .i64 (z.i : Int)] (pkH l) (fun r H' => ∃ l' : PkM, r = .tuple #[] ∧ H' = pkH l' ∧ l'.p = l.p ∧ PkIs (N + 1) (s.out z.i) l') := by
  obtain ⟨tk, q, R, A, B, h1, hp, h2⟩ := hl.at_ hz
  exact Spec.perm (pk_out0 N s l.p l.bs l.mb l.t l.seats l.cs l.ts l.mes l.mc z hz tk q R A B (hl.to hp) h1 h2 hN) (pkH_perm l hp)
end Go.Proofs.YtbkdebnkoidicaaGreat
end
section
set_option linter.unusedVariables false
set_option maxRecDepth 20000
set_option maxHeartbeats 2000000
namespace Go.Proofs.YtbkdebnkoidicaaGreat
theorem wakeR_bad (s : PS) {a : Sp} (h : ¬ vldS a) : s.wakeR a = (0, 2) := by unfold PS.wakeR; rw [if_neg h]
theorem wakeR_none (s : PS) {a : Sp} (h : vldS a) (e : wAt s.W a = []) : s.wakeR a = (0, 9) := by unfold PS.wakeR; rw [if_pos h, e]
theorem wakeR_some (s : PS) {a : Sp} (h : vldS a) {v : Int} (e : (wAt s.W a)[0]? = some v) : s.wakeR a = (v, 0) := by
  unfold PS.wakeR
  rw [if_pos h]
  cases hl : wAt s.W a with
  | nil => rw [hl] at e; cases e
  | cons x r => rw [hl] at e; simp at e; rw [e]
theorem pk_wake (N : Nat) (s : PS) (l : PkM) (hl : PkIs N s l) (hN : N < 900000) (a : Sp) : Spec Tryz.prog 55 [ptrQ l.p, ekS a] (pkH l) (fun r H' => ∃ l' : PkM, r = .tuple #[.int .i64 (s.wakeR a).1, .int .i64 (s.wakeR a).2] ∧ H' = pkH l' ∧ l'.p = l.p ∧ PkIs (N + 1) (s.wake a) l') := by
  refine Spec.of (E := [(0, ptrQ l.p), (1, ekS a)]) Tryz.func55 rfl (by kernel_rfl) Tryz.ntmps55 rfl rfl (fun w => ?_)
  refine WC_seq ?_
  refine WC_region ?_
  refine WL_do rfl rfl rfl (D_box (cs := [_, _]) rfl rfl rfl) ?_
  rintro _ _ ⟨b1, rfl, rfl⟩
  refine WL_val rfl rfl rfl (R_assign rfl rfl) ?_
  refine WL_val rfl rfl rfl (R_assign rfl rfl) ?_
  refine WL_nil ?_
  refine WQ_code ?_
  refine WC_seq ?_
  refine WC_region ?_
  refine WL_val rfl rfl rfl (R_move rfl rfl) ?_
  refine WL_val rfl rfl rfl (R_loadA (vs := [_, _]) rfl ag108 rfl (mmY) rfl (atZ)) ?_
  refine WL_do rfl rfl rfl (D_call (pk_waiting N s l hl a) rfl rfl rfl rfl (pqY)) ?_
  rintro _ _ ⟨_, ⟨ob, c', tl', rfl, own', rfl⟩, rfl⟩
  refine WL_val rfl rfl rfl (R_move rfl rfl) ?_
  refine WL_val rfl rfl rfl (R_extract rfl rfl rfl) ?_
  refine WL_val rfl rfl rfl (R_extract rfl rfl rfl) ?_
  refine WL_val rfl rfl rfl (R_assign rfl rfl) ?_
  refine WL_val rfl rfl rfl (R_assign rfl rfl) ?_
  refine WL_nil ?_
  refine WQ_code ?_
  refine WC_seq ?_
  refine WC_block ?_
  refine WC_seq ?_
  refine WC_region ?_
  refine WL_val rfl rfl rfl (R_move rfl rfl) ?_
  refine WL_val rfl rfl rfl (R_neq rfl rfl rfl) ?_
  refine WL_val rfl rfl rfl (R_assign rfl rfl) ?_
  refine WL_nil ?_
  refine WQ_code ?_
  refine WC_dec rfl (fun c1 => ?_) (fun c1 => ?_)
  · have hv : ¬ vldS a := fun h9 => by unfold spE at c1; rw [if_pos h9] at c1; exact c1 rfl
    have e9 := wakeR_bad s hv
    have hsp : spE a = 2 := if_neg hv
    refine WC_seq ?_
    refine WC_region ?_
    refine WL_val rfl rfl rfl (R_move rfl rfl) ?_
    refine WL_val rfl rfl rfl (R_assign rfl rfl) ?_
    refine WL_val rfl rfl rfl (R_assign rfl rfl) ?_
    refine WL_nil ?_
    refine WQ_code ?_
    refine WC_ret ?_
    refine WQ_ret rfl rfl (.cons (.tmp rfl) (.cons (.tmp rfl) .nil)) rfl (by
        exact ⟨l, by rw [e9, hsp]; rfl, rfl, rfl, by unfold PS.wake; rw [e9, if_neg (by decide)]; exact hl.mono (Nat.le_succ N)⟩) (pqY)
  · have hv : vldS a := by by_cases h9 : vldS a; exact h9; (unfold spE at c1; rw [if_neg h9] at c1; exact absurd (by decide) c1)
    have hwt : s.waiting a = wAt s.W a := by unfold PS.waiting; rw [if_pos hv]
    refine WC_seq ?_
    refine WC_region ?_
    refine WL_val rfl rfl rfl (R_move rfl rfl) ?_
    refine WL_val rfl rfl rfl (R_len rfl Tryz.underlying34 rfl) ?_
    refine WL_val rfl rfl rfl (R_eql rfl rfl rfl) ?_
    refine WL_val rfl rfl rfl (R_assign rfl rfl) ?_
    refine WL_nil ?_
    refine WQ_code ?_
    refine WC_dec rfl (fun c2 => ?_) (fun c2 => ?_)
    · have e9 := wakeR_none s hv (by rw [← hwt]; exact List.eq_nil_of_length_eq_zero (by omega))
      refine WC_seq ?_
      refine WC_region ?_
      refine WL_val rfl rfl rfl (R_assign rfl rfl) ?_
      refine WL_val rfl rfl rfl (R_assign rfl rfl) ?_
      refine WL_nil ?_
      refine WQ_code ?_
      refine WC_ret ?_
      refine WQ_ret rfl rfl (.cons (.tmp rfl) (.cons (.tmp rfl) .nil)) rfl (by
          exact ⟨l, by rw [e9]; rfl, rfl, rfl, by unfold PS.wake; rw [e9, if_neg (by decide)]; exact hl.mono (Nat.le_succ N)⟩) (pqY)
    · obtain ⟨v, hx⟩ := exE (T := s.waiting a) (i := 0) (by omega)
      have e9 := wakeR_some s hv (hwt ▸ hx)
      obtain ⟨z, hz, hza, rfl⟩ := wAt_mem.1 (show v ∈ wAt s.W a by rw [← hwt]; exact List.mem_of_getElem? hx)
      obtain ⟨wb, hwb⟩ := own'.some_of (by omega)
      rw [hwb]
      refine WC_skip ?_
      refine WQ_code ?_
      refine WC_seq ?_
      refine WC_region ?_
      refine WL_val rfl rfl rfl (R_move rfl rfl) ?_
      refine WL_val rfl rfl rfl (R_move rfl rfl) ?_
      refine WL_val rfl rfl rfl (R_indexAddrN rfl Tryz.underlying34 Tryz.sizeOf3 rfl rfl (by simp; omega)) ?_
      refine WL_val rfl rfl rfl (R_load (v := .int .i64 (z.i : Int)) rfl sc3 rfl (mmY) (fm_get0 encI1 hx (j := 0) (by omega))) ?_
      refine WL_do rfl rfl rfl (D_call (pk_out N s l hl hN z hz) rfl rfl rfl rfl (pqY)) ?_
      rintro _ _ ⟨_, ⟨l', rfl, rfl, hlp, hl'⟩, rfl⟩
      refine WL_nil ?_
      refine WQ_code ?_
      refine WC_seq ?_
      refine WC_region ?_
      refine WL_val rfl rfl rfl (R_move rfl rfl) ?_
      refine WL_val rfl rfl rfl (R_indexAddrN rfl Tryz.underlying34 Tryz.sizeOf3 rfl rfl (by simp; omega)) ?_
      refine WL_val rfl rfl rfl (R_load (v := .int .i64 (z.i : Int)) rfl sc3 rfl (mmY) (fm_get0 encI1 hx (j := 0) (by omega))) ?_
      refine WL_val rfl rfl rfl (R_assign rfl rfl) ?_
      refine WL_val rfl rfl rfl (R_assign rfl rfl) ?_
      refine WL_nil ?_
      refine WQ_code ?_
      refine WC_ret ?_
      refine WQ_ret rfl rfl (.cons (.tmp rfl) (.cons (.tmp rfl) .nil)) rfl (by
          exact ⟨l', by rw [e9]; rfl, rfl, hlp, by unfold PS.wake; rw [e9, if_pos rfl]; exact hl'⟩) (pqY)
structure WkW where
  k : Nat
  l : PkM
theorem waiting_len {s : PS} (h : PsOk s) (a : Sp) : (s.waiting a).length ≤ 64 := by
  unfold PS.waiting
  split
  · exact Nat.le_trans (wAt_len _ _) h.few
  · exact Nat.zero_le _
theorem pk_wakeall0 (N : Nat) (s : PS) (l : PkM) (hl : PkIs N s l) (hN : N < 899000) (a : Sp) : Spec Tryz.prog 90 [ptrQ l.p, ekS a] (pkH l) (fun r H' => ∃ (l' : PkM) (ob : Option Nat) (c' : Nat) (tl' : List Value), r = .tuple #[slV ob (s.waiting a).length c', .int .i64 (spE a)] ∧ Own ob (s.waiting a).length c' 1 (ivs (s.waiting a)) tl' ∧ H' = ⟨ob, cl (ivs (s.waiting a) ++ tl') 3⟩ :: pkH l' ∧ l'.p = l.p ∧ PkIs (N + (s.waiting a).length) (s.wakeAll a) l') := by
  have hwl := waiting_len hl.ps a
  refine Spec.of (E := [(0, ptrQ l.p), (1, ekS a)]) Tryz.func90 rfl (by kernel_rfl) Tryz.ntmps90 rfl rfl (fun w => ?_)
  refine WC_seq ?_
  refine WC_region ?_
  refine WL_do rfl rfl rfl (D_box (cs := [_, _]) rfl rfl rfl) ?_
  rintro _ _ ⟨b1, rfl, rfl⟩
  refine WL_val rfl rfl rfl (R_assign rfl rfl) ?_
  refine WL_val rfl rfl rfl (R_assign rfl rfl) ?_
  refine WL_nil ?_
  refine WQ_code ?_
  refine WC_seq ?_
  refine WC_region ?_
  refine WL_val rfl rfl rfl (R_move rfl rfl) ?_
  refine WL_val rfl rfl rfl (R_loadA (vs := [_, _]) rfl ag108 rfl (mmY) rfl (atZ)) ?_
  refine WL_do rfl rfl rfl (D_call (pk_waiting N s l hl a) rfl rfl rfl rfl (pqY)) ?_
  rintro _ _ ⟨_, ⟨ob, c', tl', rfl, own', rfl⟩, rfl⟩
  refine WL_val rfl rfl rfl (R_move rfl rfl) ?_
  refine WL_val rfl rfl rfl (R_extract rfl rfl rfl) ?_
  refine WL_val rfl rfl rfl (R_extract rfl rfl rfl) ?_
  refine WL_val rfl rfl rfl (R_assign rfl rfl) ?_
  refine WL_val rfl rfl rfl (R_assign rfl rfl) ?_
  refine WL_nil ?_
  refine WQ_code ?_
  refine WC_seq ?_
  refine WC_seq ?_
  refine WC_region ?_
  refine WL_val rfl rfl rfl (R_move rfl rfl) ?_
  refine WL_val rfl rfl rfl (R_len rfl Tryz.underlying34 rfl) ?_
  refine WL_val rfl rfl rfl (R_move rfl rfl) ?_
  refine WL_nil ?_
  refine WQ_code ?_
  refine WC_block ?_
  refine WC_loopF (G := WkW) [9, 18, 19, 20, 21, 22, 23, 24, 25] (fun y => y.k ≤ (s.waiting a).length ∧ PkIs (N + y.k) (((s.waiting a).take y.k).foldl PS.out s) y.l ∧ y.l.p = l.p) (fun y => [(18, .int .i64 (y.k : Int))]) (fun y => pkH y.l) (fun y => (s.waiting a).length - y.k) (⟨0, l⟩) (⟨Nat.zero_le _, hl, rfl⟩) leZ (pqY) ?_
  rintro y ⟨hyk, hy, hyp⟩
  rw [← hyp]
  refine WC_seq ?_
  refine WC_region ?_
  refine WL_val rfl rfl rfl (R_lss rfl rfl rfl) ?_
  refine WL_nil ?_
  refine WQ_code ?_
  refine WC_seq ?_
  refine WC_dec rfl (fun c1 => ?_) (fun c1 => ?_)
  · refine WC_skip ?_
    refine WQ_code ?_
    refine WC_seq ?_
    refine WC_block ?_
    refine WC_seq ?_
    refine WC_region ?_
    obtain ⟨v, hx⟩ := exE (T := s.waiting a) (i := y.k) (by omega)
    obtain ⟨wb, hwb⟩ := own'.some_of (by omega)
    rw [hwb]
    have hv : vldS a := by by_cases h9 : vldS a; exact h9; (unfold PS.waiting at hx; rw [if_neg h9] at hx; cases hx)
    have hwt : s.waiting a = wAt s.W a := by unfold PS.waiting; rw [if_pos hv]
    have hwk := wakes_ok hl.ps a y.k (by rw [← hwt]; omega)
    rw [← hwt] at hwk
    obtain ⟨z, hz, hza, rfl⟩ := wAt_mem.1 (show v ∈ wAt (((s.waiting a).take y.k).foldl PS.out s).W a by rw [hwk.2.1]; exact List.mem_of_getElem? (i := 0) (by rw [List.getElem?_drop]; exact hx))
    refine WL_val rfl rfl rfl (R_indexAddrN rfl Tryz.underlying34 Tryz.sizeOf3 rfl rfl (by omega)) ?_
    refine WL_val rfl rfl rfl (R_load (v := .int .i64 (z.i : Int)) rfl sc3 rfl (mmY) (fm_get0 encI1 hx (j := 0) (by omega))) ?_
    refine WL_val rfl rfl rfl (R_assign rfl rfl) ?_
    refine WL_nil ?_
    refine WQ_code ?_
    refine WC_region ?_
    refine WL_val rfl rfl rfl (R_move rfl rfl) ?_
    refine WL_val rfl rfl rfl (R_move rfl rfl) ?_
    refine WL_do rfl rfl rfl (D_call (pk_out (N + y.k) (((s.waiting a).take y.k).foldl PS.out s) y.l hy (by omega) z hz) rfl rfl rfl rfl (pqY)) ?_
    rintro _ _ ⟨_, ⟨l', rfl, rfl, hlp, hl'⟩, rfl⟩
    refine WL_nil ?_
    refine WQ_code ?_
    refine WC_region ?_
    refine WL_val rfl rfl rfl (R_add rfl rfl rfl (by omega)) ?_
    refine WL_val rfl rfl rfl (R_move rfl rfl) ?_
    refine WL_nil ?_
    refine WQ_nextF (⟨y.k + 1, l'⟩) (⟨by dsimp only; omega, by dsimp only; rw [take_get hx, List.foldl_append]; exact hl', hlp.trans rfl⟩) (by dsimp only; omega) leZ (psZ) rfl (pqY)
  · have hyl : y.k = (s.waiting a).length := by omega
    have hfin : PkIs (N + (s.waiting a).length) (s.wakeAll a) y.l := by have h9 := hy; rw [hyl, List.take_length] at h9; exact h9
    refine WC_exit ?_
    refine WQ_code ?_
    refine WC_seq ?_
    refine WC_region ?_
    refine WL_val rfl rfl rfl (R_move rfl rfl) ?_
    refine WL_val rfl rfl rfl (R_move rfl rfl) ?_
    refine WL_val rfl rfl rfl (R_assign rfl rfl) ?_
    refine WL_val rfl rfl rfl (R_assign rfl rfl) ?_
    refine WL_nil ?_
    refine WQ_code ?_
    refine WC_ret ?_
    refine WQ_ret rfl rfl (.cons (.tmp rfl) (.cons (.tmp rfl) .nil)) rfl (by
        exact ⟨y.l, ob, c', tl', rfl, own', rfl, rfl, hfin⟩) (pqY)
end Go.Proofs.YtbkdebnkoidicaaGreat
end
section
set_option linter.unusedVariables false
set_option maxRecDepth 20000
namespace Go.Proofs.YtbkdebnkoidicaaGreat
theorem nodup_inj {α β : Type} {f : α → β} {l : List α} (h : (l.map f).Nodup) {a b : α} (ha : a ∈ l) (hb : b ∈ l) (e : f a = f b) : a = b := by
  obtain ⟨i, hi, rfl⟩ := List.mem_iff_getElem.1 ha
  obtain ⟨j, hj, rfl⟩ := List.mem_iff_getElem.1 hb
  rw [List.Nodup, List.pairwise_map, List.pairwise_iff_getElem] at h
  rcases Nat.lt_trichotomy i j with q | q | q
  · exact absurd e (h i j hi hj q)
  · subst q; rfl
  · exact absurd e.symm (h j i hj hi q)
theorem mk_keys {mes : Array MapEntry} {mc : Nat} {QL : List (Sp × QM)} (h : Mk ekS evP mes mc QL) : (mes.toList.map (·.key)).Nodup := by
  have h1 : ((mes.toList.map fun e => (e.key, e.val)).map Prod.fst).Perm ((QL.map fun x => (ekS x.1, evP x.2)).map Prod.fst) := h.perm.map _
  rw [List.map_map, List.map_map] at h1
  refine h1.nodup_iff.2 ?_
  have h2 := h.nodup
  rw [List.Nodup, List.pairwise_map] at h2 ⊢
  exact h2.imp fun hne e => hne (ekS_inj _ _ e)
/-- What has been copied. -/
structure Cp (l : PkM) (seen : Array Nat) (QL : List (Sp × QM)) : Prop where
  src : ∀ x ∈ QL, ∃ q, (x.1, q) ∈ l.QL ∧ x.2.l = q.l ∧ x.2.n = q.n ∧ x.2.es = q.es
  seen : ∀ e ∈ l.mes.toList, ∀ k : Sp, e.key = ekS k → (e.born ∈ seen ↔ k ∈ QL.map (·.1))
theorem Cp.new (l : PkM) : Cp l #[] [] := ⟨fun x hx => (by cases hx), fun e _ k _ => by simp⟩
section
variable {N : Nat} {s : PS} {l : PkM} {seen : Array Nat} {QL : List (Sp × QM)}
theorem Cp.fresh (h : Cp l seen QL) {e : MapEntry} (he : e ∈ l.mes.toList) (hs : e.born ∉ seen) {k : Sp} (hk : e.key = ekS k) : k ∉ QL.map (·.1) := fun hm => hs ((h.seen e he k hk).2 hm)
theorem Cp.next (h : Cp l seen QL) (hl : PkIs N s l) {e : MapEntry} (he : e ∈ l.mes.toList) {k : Sp} {q q' : QM} (hk : e.key = ekS k) (hq : (k, q) ∈ l.QL) (h1 : q'.l = q.l) (h2 : q'.n = q.n) (h3 : q'.es = q.es) : Cp l (seen.push e.born) ((k, q') :: QL) := by
  refine ⟨fun x hx => ?_, fun e2 he2 k2 hk2 => ?_⟩
  · rcases List.mem_cons.1 hx with rfl | hx
    · exact ⟨q, hq, h1, h2, h3⟩
    · exact h.src x hx
  · rw [Array.mem_push, List.map_cons, List.mem_cons, h.seen e2 he2 k2 hk2]
    constructor
    · rintro (q1 | q1)
      · exact .inr q1
      · have := nodup_inj hl.mpk.bnd he2 he q1
        subst this
        exact .inl (ekS_inj _ _ (hk2.symm.trans hk))
    · rintro (q1 | q1)
      · have : e2 = e := nodup_inj (mk_keys hl.mpk) he2 he (by rw [hk2, hk, q1])
        rw [this]; exact .inr rfl
      · exact .inl q1
theorem Cp.len (h : Cp l seen QL) (hn : (QL.map (·.1)).Nodup) : QL.length ≤ l.QL.length := by
  have := List.Nodup.length_le_of_subset hn (l₂ := l.QL.map (·.1)) fun k hk => by
    obtain ⟨x, hx, rfl⟩ := List.mem_map.1 hk
    obtain ⟨q, hq, _⟩ := h.src x hx
    exact List.mem_map.2 ⟨_, hq, rfl⟩
  rw [List.length_map, List.length_map] at this; exact this
theorem Cp.done (h : Cp l seen QL) (hl : PkIs N s l) (hall : ∀ e ∈ l.mes.toList, e.born ∈ seen) {mes : Array MapEntry} {mc : Nat} (hM : Mk ekS evP mes mc QL) {t' : TkM} (ht : TkIs s.sm s.qm t') (htn : t'.n = l.t.n) (p bs mb cs : Nat) (ts : List Value) : PkIs N s ⟨p, bs, mb, t', l.seats, cs, ts, mes, mc, QL⟩ := by
  refine ⟨hl.ps, ht, by rw [htn]; exact hl.tn, hl.ln, hM, fun x hx => ?_, fun z hz => ?_⟩
  · obtain ⟨q, hq, h1, h2, h3⟩ := h.src x hx
    have h4 := hl.q _ hq
    exact ⟨⟨by rw [h1, h2]; exact h4.1.qk, by rw [h1, h3]; exact h4.1.mp, by rw [h2]; exact h4.1.n⟩, by rw [h1]; exact h4.2⟩
  · obtain ⟨t, q, h1, h2, h3⟩ := hl.seat z hz
    obtain ⟨e, he, hk, _⟩ := hl.mpk.has h2
    have hm := (h.seen e he z.at_ hk).1 (hall e he)
    obtain ⟨⟨k, q'⟩, hx, rfl⟩ := List.mem_map.1 hm
    obtain ⟨q2, hq2, h5, _⟩ := h.src _ hx
    have := key_uniq hl.mpk.nodup h2 hq2
    subst this
    exact ⟨t, q', h1, hx, by rw [h5]; exact h3⟩
end
end Go.Proofs.YtbkdebnkoidicaaGreat
end
section
set_option linter.unusedVariables false
set_option maxRecDepth 20000
namespace Go.Proofs.YtbkdebnkoidicaaGreat
/-- An element of the heap's memory. -/
structure El where
  key : Nat
  value : Int
  seq : Nat
  pos : Int
abbrev encEl (x : El) : List Value := [.int .u64 (x.key : Int), .int .i64 x.value, .int .u64 (x.seq : Int), .int .i64 x.pos]
theorem encEl4 (x : El) : (encEl x).length = 4 := rfl
abbrev encN (x : Nat) : List Value := [.int .i64 (x : Int)]
theorem encN1 (x : Nat) : (encN x).length = 1 := rfl
abbrev ivn (l : List Nat) : List Value := l.flatMap encN
/-- What an element is ordered by. -/
def rk (E : List El) (h : Nat) : Nat := match E[h]? with
  | some x => x.key * 18446744073709551616 + x.seq
  | none => 0
theorem rk_of {E : List El} {h : Nat} {x : El} (hx : E[h]? = some x) : rk E h = x.key * 18446744073709551616 + x.seq := by rw [rk, hx]
def gt0 (l : List Nat) (i : Nat) : Nat := (l[i]?).getD 0
theorem gt0_of {l : List Nat} {i h : Nat} (hx : l[i]? = some h) : gt0 l i = h := by rw [gt0, hx]; rfl
abbrev rkl (E : List El) (l : List Nat) (i : Nat) : Nat := rk E (gt0 l i)
/-! the order of a tree with four children to one -/
def HOk (F : Nat → Nat) (n : Nat) : Prop := ∀ j, 0 < j → j < n → F ((j - 1) / 4) ≤ F j
def HGp (F : Nat → Nat) (n i : Nat) : Prop := 0 < i → ∀ c, c < n → 0 < c → (c - 1) / 4 = i → F ((i - 1) / 4) ≤ F c
structure HFix (F : Nat → Nat) (n i : Nat) : Prop where
  e : ∀ j, 0 < j → j < n → j ≠ i → (j - 1) / 4 ≠ i → F ((j - 1) / 4) ≤ F j
  gp : HGp F n i
structure HUp (F : Nat → Nat) (n i : Nat) : Prop where
  e : ∀ j, 0 < j → j < n → j ≠ i → F ((j - 1) / 4) ≤ F j
  gp : HGp F n i
structure HDown (F : Nat → Nat) (n i : Nat) : Prop where
  e : ∀ j, 0 < j → j < n → (j - 1) / 4 ≠ i → F ((j - 1) / 4) ≤ F j
  gp : HGp F n i
structure Swapped (F F' : Nat → Nat) (a b : Nat) : Prop where
  fa : F' a = F b
  fb : F' b = F a
  o : ∀ j, j ≠ a → j ≠ b → F' j = F j
theorem HUp.fix {F : Nat → Nat} {n i : Nat} (h : HUp F n i) : HFix F n i := ⟨fun j h1 h2 h3 _ => h.e j h1 h2 h3, h.gp⟩
theorem HOk.down {F : Nat → Nat} {n : Nat} (h : HOk F n) (i : Nat) (hi : i < n) : HDown F n i :=
  ⟨fun j h1 h2 _ => h j h1 h2, fun h0 c h1 h2 h3 => by
    have a := h i h0 hi
    have b := h c h2 h1
    rw [h3] at b; omega⟩
theorem up_step {F F' : Nat → Nat} {n i p : Nat} (h : HFix F n i) (hi : 0 < i) (hin : i < n) (hp : p = (i - 1) / 4) (hlt : F i < F p) (hs : Swapped F F' i p) : HUp F' n p := by
  have hpi : p < i := by omega
  have hpp : 0 < p → F ((p - 1) / 4) ≤ F p := fun h0 => h.e p h0 (by omega) (by omega) (by omega)
  constructor
  · intro j h1 h2 h3
    by_cases hj : j = i
    · subst hj
      rw [← hp, hs.fb, hs.fa]; omega
    · rw [hs.o j hj h3]
      by_cases hq : (j - 1) / 4 = i
      · rw [hq, hs.fa]
        have := h.gp hi j h2 h1 hq
        rw [← hp] at this; exact this
      · by_cases hq2 : (j - 1) / 4 = p
        · rw [hq2, hs.fb]
          have := h.e j h1 h2 hj hq
          rw [hq2] at this; omega
        · rw [hs.o _ hq hq2]; exact h.e j h1 h2 hj hq
  · intro h0 c h1 h2 h3
    have e1 : F' ((p - 1) / 4) = F ((p - 1) / 4) := hs.o _ (by omega) (by omega)
    have e2 := hpp h0
    rw [e1]
    by_cases hc : c = i
    · subst hc; rw [hs.fa]; exact e2
    · rw [hs.o c hc (by omega)]
      have := h.e c h2 h1 hc (by omega)
      rw [h3] at this; omega
theorem up_done {F : Nat → Nat} {n i i0 : Nat} (h : HFix F n i) (h0 : i = i0 ∨ HUp F n i) (hi0 : i0 < n) (hx : i = 0 ∨ F ((i - 1) / 4) ≤ F i) : HDown F n i0 := by
  rcases h0 with rfl | h0
  · exact ⟨fun j h1 h2 h3 => by
      by_cases hj : j = i
      · subst hj; rcases hx with hx | hx
        · omega
        · exact hx
      · exact h.e j h1 h2 hj h3, h.gp⟩
  · have hok : HOk F n := fun j h1 h2 => by
      by_cases hj : j = i
      · subst hj; rcases hx with hx | hx
        · omega
        · exact hx
      · exact h0.e j h1 h2 hj
    exact hok.down i0 hi0
theorem down_step {F F' : Nat → Nat} {n i m : Nat} (h : HDown F n i) (hm : m < n) (hc : 0 < m) (hcm : (m - 1) / 4 = i) (hlt : F m ≤ F i) (hmin : ∀ c, c < n → 0 < c → (c - 1) / 4 = i → F m ≤ F c) (hs : Swapped F F' i m) : HDown F' n m := by
  constructor
  · intro j h1 h2 h3
    by_cases hj : j = m
    · subst hj; rw [hcm, hs.fa, hs.fb]; omega
    · by_cases hji : j = i
      · subst hji
        rw [hs.fa, hs.o _ (by omega) h3]
        exact h.gp h1 m hm hc hcm
      · rw [hs.o j hji hj]
        by_cases hq : (j - 1) / 4 = i
        · rw [hq, hs.fa]; exact hmin j h2 h1 hq
        · rw [hs.o _ hq h3]; exact h.e j h1 h2 hq
  · intro h0 c h1 h2 h3
    rw [hcm, hs.fa, hs.o c (by omega) (by omega)]
    have := h.e c h2 h1 (by omega)
    rw [h3] at this; exact this
theorem down_done {F : Nat → Nat} {n i : Nat} (h : HDown F n i) (hmin : ∀ c, c < n → 0 < c → (c - 1) / 4 = i → F i ≤ F c) : HOk F n := fun j h1 h2 => by
  by_cases hq : (j - 1) / 4 = i
  · rw [hq]; exact hmin j h2 h1 hq
  · exact h.e j h1 h2 hq
theorem HOk.top {F : Nat → Nat} {n : Nat} (h : HOk F n) : ∀ j, j < n → F 0 ≤ F j := fun j => by
  induction j using Nat.strongRecOn with
  | ind j ih =>
    intro hj
    by_cases h0 : j = 0
    · subst h0; exact Nat.le_refl _
    · have := ih ((j - 1) / 4) (by omega) (by omega)
      have := h j (by omega) hj
      omega
theorem cut_fix {F F' : Nat → Nat} {n i : Nat} (h : HOk F (n + 1)) (hi : i < n) (hs : Swapped F F' i n) : HFix F' n i :=
  ⟨fun j h1 h2 h3 h4 => by rw [hs.o j h3 (by omega), hs.o _ h4 (by omega)]; exact h j h1 (by omega),
   fun h0 c h1 h2 h3 => by
    rw [hs.o c (by omega) (by omega), hs.o _ (by omega) (by omega)]
    have a := h i h0 (by omega)
    have b := h c h2 (by omega)
    rw [h3] at b; omega⟩
theorem add_fix {F F' : Nat → Nat} {n : Nat} (h : HOk F n) (hs : ∀ j, j < n → F' j = F j) : HFix F' (n + 1) n :=
  ⟨fun j h1 h2 h3 _ => by rw [hs j (by omega), hs _ (by omega)]; exact h j h1 (by omega), fun h0 c h1 h2 h3 => by omega⟩
theorem add_ok {F : Nat → Nat} {n : Nat} (h : HDown F (n + 1) n) : HOk F (n + 1) := down_done h (fun c h1 h2 h3 => by omega)
theorem HOk.cong {F F' : Nat → Nat} {n : Nat} (h : HOk F n) (e : ∀ j, j < n → F' j = F j) : HOk F' n := fun j h1 h2 => by rw [e j h2, e _ (by omega)]; exact h j h1 h2
theorem HFix.cong {F F' : Nat → Nat} {n i : Nat} (h : HFix F n i) (hi : i < n) (e : ∀ j, j < n → F' j = F j) : HFix F' n i :=
  ⟨fun j h1 h2 h3 h4 => by rw [e j h2, e _ (by omega)]; exact h.e j h1 h2 h3 h4, fun h0 c h1 h2 h3 => by rw [e c h1, e _ (by omega)]; exact h.gp h0 c h1 h2 h3⟩
/-! where elements are -/
def setp (E : List El) (h : Nat) (i : Int) : List El := E.modify h (fun x => { x with pos := i })
theorem setp_of {E : List El} {h : Nat} {x : El} (hx : E[h]? = some x) (i : Int) : E.set h { x with pos := i } = setp E h i := by
  apply List.ext_getElem?
  intro k
  rw [setp, List.getElem?_modify, List.getElem?_set]
  by_cases e : h = k
  · subst e
    rw [if_pos rfl, if_pos (List.getElem?_eq_some_iff.1 hx).1, hx]
    simp
  · simp [e]
theorem setp_len (E : List El) (h : Nat) (i : Int) : (setp E h i).length = E.length := by rw [setp, List.length_modify]
theorem setp_get {E : List El} {h k : Nat} {x : El} {i : Int} (hx : E[k]? = some x) : (setp E h i)[k]? = some (if h = k then { x with pos := i } else x) := by
  rw [setp, List.getElem?_modify, hx]
  by_cases e : h = k <;> simp [e]
theorem setp_back {E : List El} {h k : Nat} {x : El} {i : Int} (hx : (setp E h i)[k]? = some x) : ∃ y, E[k]? = some y ∧ x = (if h = k then { y with pos := i } else y) := by
  cases hy : E[k]? with
  | none => rw [setp, List.getElem?_modify, hy] at hx; by_cases e : h = k <;> simp [e] at hx
  | some y => rw [setp_get hy] at hx; exact ⟨y, rfl, (Option.some.inj hx).symm⟩
def sw (l : List Nat) (a b : Nat) : List Nat := (l.set a (gt0 l b)).set b (gt0 l a)
theorem sw_len (l : List Nat) (a b : Nat) : (sw l a b).length = l.length := by rw [sw, List.length_set, List.length_set]
theorem sw_get {l : List Nat} {a b : Nat} (ha : a < l.length) (hb : b < l.length) (i : Nat) : (sw l a b)[i]? = if i = b then some (gt0 l a) else if i = a then some (gt0 l b) else l[i]? := by
  rw [sw, List.getElem?_set, List.getElem?_set, List.length_set]
  by_cases e1 : b = i
  · subst e1; simp [hb]
  · by_cases e2 : a = i
    · subst e2; simp [e1, Ne.symm e1, ha]
    · simp [e1, e2, Ne.symm e1, Ne.symm e2]
theorem sw_swapped (F : Nat → Nat) {l : List Nat} {a b : Nat} (ha : a < l.length) (hb : b < l.length) : Swapped (fun i => F (gt0 l i)) (fun i => F (gt0 (sw l a b) i)) a b := by
  refine ⟨?_, ?_, ?_⟩
  · rw [show gt0 (sw l a b) a = gt0 l b from by
      rw [gt0, sw_get ha hb]
      by_cases e : a = b
      · subst e; simp
      · simp [e]]
  · rw [gt0, sw_get ha hb]; simp
  · intro j h1 h2; rw [gt0, sw_get ha hb]; simp [h1, h2, gt0]
theorem set_cnt {l : List Nat} {i x : Nat} (h : l[i]? = some x) (y z : Nat) : (l.set i y).count z + (if x = z then 1 else 0) = l.count z + (if y = z then 1 else 0) := by
  induction l generalizing i with
  | nil => simp at h
  | cons w l ih =>
    cases i with
    | zero =>
      simp only [List.getElem?_cons_zero, Option.some.injEq] at h
      subst h
      simp only [List.set_cons_zero, List.count_cons, beq_iff_eq]; omega
    | succ i =>
      have := ih (i := i) (by simpa using h)
      simp only [List.set_cons_succ, List.count_cons, beq_iff_eq]; omega
theorem sw_perm {l : List Nat} {a b : Nat} (ha : a < l.length) (hb : b < l.length) : (sw l a b).Perm l := by
  rw [List.perm_iff_count]
  intro z
  have h1 := set_cnt (l := l) (i := a) (x := gt0 l a) (by rw [gt0, List.getElem?_eq_getElem ha]; rfl) (gt0 l b) z
  have h2 := set_cnt (l := l.set a (gt0 l b)) (i := b) (x := gt0 l b) (by
    rw [List.getElem?_set]
    by_cases e : a = b
    · subst e; simp [ha]
    · rw [if_neg e, gt0, List.getElem?_eq_getElem hb]; rfl) (gt0 l a) z
  rw [sw]; omega
/-- The elements E0 with the places of l. -/
structure St (E0 E : List El) (l : List Nat) : Prop where
  len : E.length = E0.length
  same : ∀ (h : Nat) (x0 : El), E0[h]? = some x0 → ∃ x, E[h]? = some x ∧ x.key = x0.key ∧ x.value = x0.value ∧ x.seq = x0.seq ∧ (h ∉ l → x.pos = x0.pos)
  pos : ∀ (i h : Nat), l[i]? = some h → ∃ x, E[h]? = some x ∧ x.pos = (i : Int)
  sq : ∀ (h : Nat) (x : El), E[h]? = some x → x.seq < 18446744073709551616
theorem St.nodup {E0 E : List El} {l : List Nat} (s : St E0 E l) : l.Nodup := by
  rw [List.Nodup, List.pairwise_iff_getElem]
  intro i j hi hj hij e
  obtain ⟨x, hx, px⟩ := s.pos j _ (List.getElem?_eq_getElem hj)
  obtain ⟨y, hy, py⟩ := s.pos i _ (List.getElem?_eq_getElem hi)
  rw [e] at hy
  rw [hx] at hy
  have := Option.some.inj hy
  subst this
  omega
theorem St.rk {E0 E : List El} {l : List Nat} (s : St E0 E l) (h : Nat) : rk E h = rk E0 h := by
  cases hx : E0[h]? with
  | none =>
    have : E0.length ≤ h := List.getElem?_eq_none_iff.1 hx
    have hy : E[h]? = none := List.getElem?_eq_none_iff.2 (by rw [s.len]; exact this)
    rw [Go.Proofs.YtbkdebnkoidicaaGreat.rk, Go.Proofs.YtbkdebnkoidicaaGreat.rk, hx, hy]
  | some x0 =>
    obtain ⟨x, h1, h2, _, h4, _⟩ := s.same h x0 hx
    rw [rk_of h1, rk_of hx, h2, h4]
theorem St.get {E0 E : List El} {l : List Nat} (s : St E0 E l) {i : Nat} (hi : i < l.length) : ∃ h x, l[i]? = some h ∧ gt0 l i = h ∧ E[h]? = some x ∧ x.pos = (i : Int) := by
  obtain ⟨h, hh⟩ : ∃ h, l[i]? = some h := ⟨_, List.getElem?_eq_getElem hi⟩
  obtain ⟨x, hx, px⟩ := s.pos i h hh
  exact ⟨h, x, hh, gt0_of hh, hx, px⟩
theorem St.self {E0 E : List El} {l l2 : List Nat} (s : St E0 E l) (h : ∀ (i h : Nat), l2[i]? = some h → l[i]? = some h) : St E E l2 :=
  ⟨rfl, fun h x hx => ⟨x, hx, rfl, rfl, rfl, fun _ => rfl⟩, fun i k hk => s.pos i k (h i k hk), s.sq⟩
theorem sw_mem {l : List Nat} {a b : Nat} (ha : a < l.length) (hb : b < l.length) (h : Nat) : h ∈ sw l a b ↔ h ∈ l := (sw_perm ha hb).mem_iff
theorem st_swap {E0 E : List El} {l : List Nat} {a b : Nat} (s : St E0 E l) (ha : a < l.length) (hb : b < l.length) : St E0 (setp (setp E (gt0 l b) a) (gt0 l a) b) (sw l a b) := by
  obtain ⟨x, ex, hx, gx, hex, px⟩ := s.get ha
  obtain ⟨y, ey, hy, gy, hey, py⟩ := s.get hb
  rw [gx, gy]
  have hne : a ≠ b → x ≠ y := fun e1 e2 => by
    subst e2
    rw [hex] at hey
    have := Option.some.inj hey
    subst this
    omega
  refine ⟨by rw [setp_len, setp_len, s.len], fun h x0 h0 => ?_, fun i h hh => ?_, fun h z hz => ?_⟩
  · obtain ⟨z, h1, h2, h3, h4, h5⟩ := s.same h x0 h0
    refine ⟨_, setp_get (setp_get h1), ?_⟩
    by_cases e1 : x = h
    · subst e1
      rw [if_pos rfl]
      by_cases e2 : y = x
      · rw [if_pos e2]; exact ⟨h2, h3, h4, fun h9 => absurd ((sw_mem ha hb _).2 (List.mem_of_getElem? hx)) h9⟩
      · rw [if_neg e2]; exact ⟨h2, h3, h4, fun h9 => absurd ((sw_mem ha hb _).2 (List.mem_of_getElem? hx)) h9⟩
    · rw [if_neg e1]
      by_cases e2 : y = h
      · subst e2
        rw [if_pos rfl]; exact ⟨h2, h3, h4, fun h9 => absurd ((sw_mem ha hb _).2 (List.mem_of_getElem? hy)) h9⟩
      · rw [if_neg e2]; exact ⟨h2, h3, h4, fun h9 => h5 (fun h8 => h9 ((sw_mem ha hb _).2 h8))⟩
  · rw [sw_get ha hb, gx, gy] at hh
    by_cases e1 : i = b
    · rw [if_pos e1] at hh
      have := Option.some.inj hh
      subst this
      exact ⟨_, setp_get (setp_get hex), by rw [if_pos rfl, e1]⟩
    · rw [if_neg e1] at hh
      by_cases e2 : i = a
      · rw [if_pos e2] at hh
        have := Option.some.inj hh
        subst this
        exact ⟨_, setp_get (setp_get hey), by rw [if_neg (hne (by omega)), if_pos rfl, e2]⟩
      · rw [if_neg e2] at hh
        obtain ⟨z, hz, pz⟩ := s.pos i h hh
        refine ⟨_, setp_get (setp_get hz), ?_⟩
        have n1 : x ≠ h := fun e => by
          subst e; rw [hex] at hz
          have := Option.some.inj hz
          subst this; omega
        have n2 : y ≠ h := fun e => by
          subst e; rw [hey] at hz
          have := Option.some.inj hz
          subst this; omega
        rw [if_neg n1, if_neg n2]; exact pz
  · obtain ⟨u, hu, rfl⟩ := setp_back hz
    obtain ⟨v, hv, rfl⟩ := setp_back hu
    have := s.sq h v hv
    by_cases e1 : x = h <;> by_cases e2 : y = h <;> simp [e1, e2] <;> exact this
theorem st_add {E : List El} {l : List Nat} {h : Nat} {x : El} (s : St E E l) (hh : E[h]? = some x) (hn : h ∉ l) : St E (setp E h (l.length : Int)) (l ++ [h]) := by
  refine ⟨setp_len .., fun k x0 h0 => ?_, fun i k hk => ?_, fun k z hz => ?_⟩
  · refine ⟨_, setp_get h0, ?_⟩
    by_cases e : h = k
    · subst e; rw [if_pos rfl]; exact ⟨rfl, rfl, rfl, fun h9 => absurd (List.mem_append_right _ (List.mem_singleton.2 rfl)) h9⟩
    · rw [if_neg e]; exact ⟨rfl, rfl, rfl, fun _ => rfl⟩
  · by_cases hi : i < l.length
    · rw [List.getElem?_append_left hi] at hk
      obtain ⟨z, hz, pz⟩ := s.pos i k hk
      refine ⟨_, setp_get hz, ?_⟩
      rw [if_neg (fun e => hn (by rw [e]; exact List.mem_of_getElem? hk))]; exact pz
    · have hi2 := (List.getElem?_eq_some_iff.1 hk).1
      rw [List.length_append, List.length_singleton] at hi2
      have e1 : i = l.length := by omega
      subst e1
      rw [List.getElem?_append_right (Nat.le_refl _), Nat.sub_self] at hk
      have := Option.some.inj hk
      subst this
      exact ⟨_, setp_get hh, by rw [if_pos rfl]⟩
  · obtain ⟨u, hu, rfl⟩ := setp_back hz
    have := s.sq k u hu
    by_cases e : h = k <;> simp [e] <;> exact this
end Go.Proofs.YtbkdebnkoidicaaGreat
end
section
set_option linter.unusedVariables false
set_option maxRecDepth 20000
namespace Go.Proofs.YtbkdebnkoidicaaGreat
/-- An element ars the document has it: its handle, value, key, and when it was pushed. -/
structure WE where
  h : Nat
  v : Int
  k : Nat
  s : Nat
abbrev hds (W : List WE) : List Nat := W.map (fun w => w.h)
structure Hp (W : List WE) (E : List El) (l : List Nat) (n : Nat) : Prop where
  st : St E E l
  ord : HOk (rkl E l) l.length
  perm : l.Perm (hds W)
  el : ∀ w ∈ W, ∃ x, E[w.h]? = some x ∧ x.key = w.k ∧ x.value = w.v ∧ x.seq = w.s
  off : ∀ (h : Nat) (x : El), E[h]? = some x → h ∉ l → x.pos = -1
  inc : W.Pairwise (fun a b => a.s < b.s)
  le : ∀ w ∈ W, w.s ≤ n
  nb : n < 9000000000000000000
  cap : l.length ≤ 1024
  ecap : E.length ≤ 1024
theorem hp_new : Hp [] [] [] 0 where
  st := ⟨rfl, fun h x hx => (by cases hx), fun i h hh => (by cases hh), fun h x hx => (by cases hx)⟩
  ord := fun j h1 h2 => absurd h2 (Nat.not_lt_zero j)
  perm := .refl _
  el := fun w hw => by cases hw
  off := fun h x hx => by cases hx
  inc := .nil
  le := fun w hw => by cases hw
  nb := by decide
  cap := by decide
  ecap := by decide
variable {W : List WE} {E : List El} {l : List Nat} {n : Nat}
theorem Hp.mem (hp : Hp W E l n) (h : Nat) : h ∈ l ↔ ∃ w ∈ W, w.h = h := by
  rw [hp.perm.mem_iff, List.mem_map]
theorem Hp.len (hp : Hp W E l n) : l.length = W.length := by rw [hp.perm.length_eq, List.length_map]
theorem Hp.nodup (hp : Hp W E l n) : (hds W).Nodup := hp.perm.nodup_iff.1 hp.st.nodup
theorem Hp.inj (hp : Hp W E l n) {a b : WE} (ha : a ∈ W) (hb : b ∈ W) (h : a.h = b.h) : a = b := by
  have hn := hp.nodup
  rw [List.Nodup, List.pairwise_map, List.pairwise_iff_getElem] at hn
  obtain ⟨i, hi, rfl⟩ := List.mem_iff_getElem.1 ha
  obtain ⟨j, hj, rfl⟩ := List.mem_iff_getElem.1 hb
  rcases Nat.lt_trichotomy i j with e | e | e
  · exact absurd h (hn i j hi hj e)
  · subst e; rfl
  · exact absurd h.symm (hn j i hj hi e)
/-- A number is a handle just if its element is somewhere. -/
theorem Hp.has (hp : Hp W E l n) {h : Nat} {x : El} (hx : E[h]? = some x) : 0 ≤ x.pos ↔ h ∈ l := by
  constructor
  · intro h0
    by_cases hm : h ∈ l
    · exact hm
    · have := hp.off h x hx hm; omega
  · intro hm
    obtain ⟨i, hi⟩ := List.getElem?_of_mem hm
    obtain ⟨y, hy, py⟩ := hp.st.pos i h hi
    rw [hx] at hy
    have := Option.some.inj hy
    subst this
    omega
theorem Hp.at (hp : Hp W E l n) {h : Nat} {x : El} (hx : E[h]? = some x) (hm : h ∈ l) : ∃ i : Nat, x.pos = (i : Int) ∧ l[i]? = some h ∧ i < l.length := by
  obtain ⟨i, hi⟩ := List.getElem?_of_mem hm
  obtain ⟨y, hy, py⟩ := hp.st.pos i h hi
  rw [hx] at hy
  have := Option.some.inj hy
  subst this
  exact ⟨i, py, hi, (List.getElem?_eq_some_iff.1 hi).1⟩
theorem Hp.in (hp : Hp W E l n) {h : Nat} (hm : h ∈ l) : ∃ w x, w ∈ W ∧ w.h = h ∧ E[h]? = some x ∧ x.key = w.k ∧ x.value = w.v ∧ x.seq = w.s := by
  obtain ⟨w, hw, rfl⟩ := (hp.mem h).1 hm
  obtain ⟨x, hx, h1, h2, h3⟩ := hp.el w hw
  exact ⟨w, x, hw, rfl, hx, h1, h2, h3⟩
/-- The element of a handle, ars the document has it. -/
def wfind (W : List WE) (h : Nat) : Option WE := W.find? (fun w => decide (w.h = h))
theorem Hp.find (hp : Hp W E l n) {w : WE} (hw : w ∈ W) : wfind W w.h = some w := by
  unfold wfind
  cases hf : W.find? (fun u => decide (u.h = w.h)) with
  | none => 
    have := List.find?_eq_none.1 hf w hw
    simp at this
  | some u =>
    have h1 := List.mem_of_find?_eq_some hf
    have h2 := List.find?_some hf
    rw [hp.inj h1 hw (of_decide_eq_true h2)]
/-- The first element by its key and by when it was pushed. -/
theorem Hp.top (hp : Hp W E l n) {h : Nat} (h0 : l[0]? = some h) : ∃ w ∈ W, w.h = h ∧ ∀ u ∈ W, w.k < u.k ∨ (w.k = u.k ∧ w.s ≤ u.s) := by
  obtain ⟨w, x, hw, hwh, hx, hk, hv, hs⟩ := hp.in (List.mem_of_getElem? h0)
  refine ⟨w, hw, hwh, fun u hu => ?_⟩
  obtain ⟨y, hy, yk, yv, ys⟩ := hp.el u hu
  obtain ⟨j, hj⟩ := List.getElem?_of_mem ((hp.mem u.h).2 ⟨u, hu, rfl⟩)
  have := hp.ord.top j (List.getElem?_eq_some_iff.1 hj).1
  rw [rkl, rkl, gt0_of h0, gt0_of hj, rk_of hx, rk_of hy] at this
  have b1 := hp.st.sq _ _ hx
  have b2 := hp.st.sq _ _ hy
  omega
/-- The handle that the next element gets. -/
def fr (E : List El) : Nat := E.findIdx (fun x => decide (x.pos < 0))
theorem fr_le : fr E ≤ E.length := List.findIdx_le_length
theorem Hp.fr_out (hp : Hp W E l n) : fr E ∉ l := by
  intro hm
  obtain ⟨i, hi⟩ := List.getElem?_of_mem hm
  obtain ⟨x, hx, px⟩ := hp.st.pos i _ hi
  obtain ⟨hlt, rfl⟩ := List.getElem?_eq_some_iff.1 hx
  have := List.findIdx_getElem (w := hlt)
  simp only [decide_eq_true_eq] at this
  unfold fr at px
  omega
theorem Hp.below (hp : Hp W E l n) {h : Nat} (hh : h < fr E) : h ∈ l := by
  have h1 := List.not_of_lt_findIdx hh
  have hlt : h < E.length := Nat.lt_of_lt_of_le hh fr_le
  exact (hp.has (List.getElem?_eq_getElem hlt)).1 (by simp at h1; omega)
theorem Hp.below2 (hp : Hp W E l n) {h : Nat} (hh : E.length ≤ h) : h ∉ l := by
  intro hm
  obtain ⟨i, hi⟩ := List.getElem?_of_mem hm
  obtain ⟨x, hx, px⟩ := hp.st.pos i _ hi
  have := (List.getElem?_eq_some_iff.1 hx).1
  omega
/-- The memory before the new element goes to its place. -/
theorem Hp.push0 (hp : Hp W E l n) (k : Nat) (v : Int) {E1 : List El} (hE1 : E1 = E ∨ (fr E = E.length ∧ E1 = E ++ [⟨0, 0, 0, 0⟩])) (hlt : fr E < E1.length) (h1024 : l.length < 1024) (hb : n + 1 < 9000000000000000000) :
    St (E1.set (fr E) ⟨k, v, n + 1, 0⟩) (E1.set (fr E) ⟨k, v, n + 1, 0⟩) l ∧ HOk (rkl (E1.set (fr E) ⟨k, v, n + 1, 0⟩) l) l.length ∧ (E1.set (fr E) ⟨k, v, n + 1, 0⟩)[fr E]? = some ⟨k, v, n + 1, 0⟩ ∧
    (∀ h x, h ≠ fr E → (E1.set (fr E) ⟨k, v, n + 1, 0⟩)[h]? = some x → E[h]? = some x) ∧ (∀ h x, h ≠ fr E → E[h]? = some x → (E1.set (fr E) ⟨k, v, n + 1, 0⟩)[h]? = some x) := by
  have hget : ∀ (h : Nat), h ≠ fr E → (E1.set (fr E) ⟨k, v, n + 1, 0⟩)[h]? = E[h]? := fun h hne => by
    rw [List.getElem?_set, if_neg (Ne.symm hne)]
    rcases hE1 with rfl | ⟨hf, rfl⟩
    · rfl
    · by_cases hl : h < E.length
      · rw [List.getElem?_append_left hl]
      · rw [List.getElem?_eq_none_iff.2 (by rw [List.length_append, List.length_singleton]; omega), List.getElem?_eq_none_iff.2 (by omega)]
  have hself : (E1.set (fr E) ⟨k, v, n + 1, 0⟩)[fr E]? = some ⟨k, v, n + 1, 0⟩ := by rw [List.getElem?_set, if_pos rfl, if_pos hlt]
  have hne : ∀ i h, l[i]? = some h → h ≠ fr E := fun i h hi e => hp.fr_out (e ▸ List.mem_of_getElem? hi)
  refine ⟨⟨rfl, fun h x hx => ⟨x, hx, rfl, rfl, rfl, fun _ => rfl⟩, fun i h hi => ?_, fun h x hx => ?_⟩, ?_, hself, fun h x hn hx => by rw [hget h hn] at hx; exact hx, fun h x hn hx => by rw [hget h hn]; exact hx⟩
  · rw [hget h (hne i h hi)]; exact hp.st.pos i h hi
  · by_cases e : h = fr E
    · subst e
      rw [hself] at hx
      have := Option.some.inj hx
      subst this
      dsimp only; omega
    · rw [hget h e] at hx; exact hp.st.sq h x hx
  · refine hp.ord.cong fun j hj => ?_
    obtain ⟨h, x, hx, gx, hex, _⟩ := hp.st.get hj
    rw [rkl, rkl, gx, rk, rk, hget h (hne j h hx)]
theorem Hp.push (hp : Hp W E l n) (k : Nat) (v : Int) {E1 E2 : List El} {l2 : List Nat} (hE1 : E1 = E ∨ (fr E = E.length ∧ E1 = E ++ [⟨0, 0, 0, 0⟩])) (hlt : fr E < E1.length) (h1024 : l.length < 1024) (hb : n + 1 < 9000000000000000000)
    (s : St (E1.set (fr E) ⟨k, v, n + 1, 0⟩) E2 l2) (hl2 : l2.Perm (l ++ [fr E])) (ho : HOk (rkl E2 l2) l2.length) : Hp (W ++ [⟨fr E, v, k, n + 1⟩]) E2 l2 (n + 1) := by
  obtain ⟨h1, _, h3, h4, h5⟩ := hp.push0 k v hE1 hlt h1024 hb
  have hin : fr E ∈ l2 := hl2.mem_iff.2 (List.mem_append_right _ (List.mem_singleton.2 rfl))
  have hlen : E1.length ≤ 1024 := by
    rcases hE1 with rfl | ⟨hf, rfl⟩
    · exact hp.ecap
    · have : (List.range E.length).length ≤ l.length := by
        refine List.Nodup.length_le_of_subset List.nodup_range fun h hh => hp.below (by rw [hf]; exact List.mem_range.1 hh)
      rw [List.length_range] at this
      rw [List.length_append, List.length_singleton]; omega
  have hWn : ∀ w ∈ W, w.h ≠ fr E := fun w hw e => hp.fr_out ((hp.mem _).2 ⟨w, hw, e⟩)
  refine ⟨s.self (fun i h hh => hh), ho, ?_, fun w hw => ?_, fun h x hx hn => ?_, ?_, fun w hw => ?_, hb, by rw [hl2.length_eq, List.length_append, List.length_singleton]; omega, by rw [s.len, List.length_set]; exact hlen⟩
  · refine hl2.trans ?_
    rw [hds, List.map_append]
    exact hp.perm.append_right _
  · rcases List.mem_append.1 hw with hw | hw
    · obtain ⟨x, hx, a1, a2, a3⟩ := hp.el w hw
      obtain ⟨y, hy, b1, b2, b3, _⟩ := s.same _ _ (h5 _ _ (hWn w hw) hx)
      exact ⟨y, hy, b1.trans a1, b2.trans a2, b3.trans a3⟩
    · rw [List.mem_singleton] at hw
      subst hw
      obtain ⟨y, hy, b1, b2, b3, _⟩ := s.same _ _ h3
      exact ⟨y, hy, b1, b2, b3⟩
  · have hlt2 : h < (E1.set (fr E) ⟨k, v, n + 1, 0⟩).length := by rw [← s.len]; exact (List.getElem?_eq_some_iff.1 hx).1
    obtain ⟨y, hy, b1, b2, b3, b4⟩ := s.same h _ (List.getElem?_eq_getElem hlt2)
    rw [hx] at hy
    have := Option.some.inj hy
    subst this
    have hne : h ≠ fr E := fun e => hn (e ▸ hin)
    rw [b4 hn]
    exact hp.off h _ (h4 h _ hne (List.getElem?_eq_getElem hlt2)) (fun hm => hn (hl2.mem_iff.2 (List.mem_append_left _ hm)))
  · rw [List.pairwise_append]
    refine ⟨hp.inc, List.pairwise_singleton _ _, fun a ha b hb2 => ?_⟩
    rw [List.mem_singleton] at hb2
    subst hb2
    have := hp.le a ha
    dsimp only; omega
  · rcases List.mem_append.1 hw with hw | hw
    · have := hp.le w hw; omega
    · rw [List.mem_singleton] at hw
      subst hw
      exact Nat.le_refl _
def wremove (W : List WE) (h : Nat) : List WE := W.filter (fun w => decide (w.h ≠ h))
theorem wremove_hds (W : List WE) (h : Nat) : hds (wremove W h) = (hds W).filter (fun g => decide (g ≠ h)) := by
  rw [wremove, hds, hds, List.filter_map]; rfl
/-- After the last element went to the place of the one that is removed. -/
theorem Hp.cut0 {E0 E2 : List El} {l3 : List Nat} {h : Nat} (s : St E0 E2 (l3 ++ [h])) : St E2 E2 l3 :=
  s.self fun i k hk => by rw [List.getElem?_append_left (List.getElem?_eq_some_iff.1 hk).1]; exact hk
theorem Hp.remove (hp : Hp W E l n) {h : Nat} (hm : h ∈ l) {E2 E3 : List El} {l3 l4 : List Nat} (s2 : St E E2 (l3 ++ [h])) (hl3 : (l3 ++ [h]).Perm l) (s3 : St E2 E3 l4) (hl4 : l4.Perm l3) (ho : HOk (rkl E3 l4) l4.length) :
    Hp (wremove W h) (setp E3 h (-1)) l4 n := by
  have hn : (l3 ++ [h]).Nodup := s2.nodup
  have hnot : h ∉ l3 := fun hm3 => by
    rw [List.nodup_append] at hn
    exact hn.2.2 h hm3 h (List.mem_singleton.2 rfl) rfl
  have hnot4 : h ∉ l4 := fun h9 => hnot (hl4.mem_iff.1 h9)
  have hl : l4.Perm (l.filter (fun g => decide (g ≠ h))) := by
    refine hl4.trans ?_
    have e := hl3.filter (fun g => decide (g ≠ h))
    rw [List.filter_append] at e
    have e1 : l3.filter (fun g => decide (g ≠ h)) = l3 := List.filter_eq_self.2 fun g hg => decide_eq_true (fun e9 => hnot (e9 ▸ hg))
    have e2 : [h].filter (fun g => decide (g ≠ h)) = [] := by simp
    rw [e1, e2, List.append_nil] at e
    exact e
  have hget : ∀ (g : Nat) (y : El), g ≠ h → (setp E3 h (-1))[g]? = some y → E3[g]? = some y := fun g y hg hy => by
    obtain ⟨z, hz, rfl⟩ := setp_back hy
    rw [if_neg (Ne.symm hg)]; exact hz
  have hget2 : ∀ (g : Nat) (y : El), g ≠ h → E3[g]? = some y → (setp E3 h (-1))[g]? = some y := fun g y hg hy => by
    rw [setp_get hy, if_neg (Ne.symm hg)]
  refine ⟨⟨rfl, fun h x hx => ⟨x, hx, rfl, rfl, rfl, fun _ => rfl⟩, fun i g hg => ?_, fun g y hy => ?_⟩, ?_, ?_, fun w hw => ?_, fun g y hy hng => ?_, ?_, fun w hw => ?_, hp.nb, ?_, ?_⟩
  · obtain ⟨y, hy, py⟩ := s3.pos i g hg
    exact ⟨y, hget2 g y (fun e => hnot4 (e ▸ List.mem_of_getElem? hg)) hy, py⟩
  · obtain ⟨z, hz, rfl⟩ := setp_back hy
    have := s3.sq g z hz
    by_cases e : h = g <;> simp [e] <;> exact this
  · refine ho.cong fun j hj => ?_
    obtain ⟨g, y, hg, gg, hgy, _⟩ := s3.get hj
    rw [rkl, rkl, gg, rk_of hgy, rk_of (hget2 g y (fun e => hnot4 (e ▸ List.mem_of_getElem? hg)) hgy)]
  · rw [wremove_hds]; exact hl.trans (hp.perm.filter _)
  · rw [wremove, List.mem_filter] at hw
    obtain ⟨hw, hne⟩ := hw
    have hne : w.h ≠ h := of_decide_eq_true hne
    obtain ⟨x, hx, a1, a2, a3⟩ := hp.el w hw
    obtain ⟨y, hy, b1, b2, b3, _⟩ := s2.same _ _ hx
    obtain ⟨z, hz, c1, c2, c3, _⟩ := s3.same _ _ hy
    exact ⟨z, hget2 _ _ hne hz, c1.trans (b1.trans a1), c2.trans (b2.trans a2), c3.trans (b3.trans a3)⟩
  · by_cases e : g = h
    · subst e
      obtain ⟨z, hz, rfl⟩ := setp_back hy
      rw [if_pos rfl]
    · have hy3 := hget g y e hy
      have hlt : g < E.length := by
        have := (List.getElem?_eq_some_iff.1 hy3).1
        rw [s3.len, s2.len] at this; exact this
      obtain ⟨z, hz, b1, b2, b3, b4⟩ := s2.same g _ (List.getElem?_eq_getElem hlt)
      obtain ⟨u, hu, c1, c2, c3, c4⟩ := s3.same g z hz
      rw [hy3] at hu
      have := Option.some.inj hu
      subst this
      have h3 : g ∉ l3 ++ [h] := fun h9 => by
        rcases List.mem_append.1 h9 with h9 | h9
        · exact hng (hl4.mem_iff.2 h9)
        · exact e (List.mem_singleton.1 h9)
      rw [c4 hng, b4 h3]
      exact hp.off g _ (List.getElem?_eq_getElem hlt) (fun h9 => h3 (hl3.mem_iff.2 h9))
  · exact hp.inc.filter _
  · rw [wremove, List.mem_filter] at hw
    exact hp.le w hw.1
  · have := hl3.length_eq
    rw [List.length_append, List.length_singleton] at this
    have := hp.cap
    rw [hl4.length_eq]; omega
  · rw [setp_len, s3.len, s2.len]; exact hp.ecap
end Go.Proofs.YtbkdebnkoidicaaGreat
end
section
set_option linter.unusedVariables false
set_option maxRecDepth 20000
set_option maxHeartbeats 2000000
namespace Go.Proofs.YtbkdebnkoidicaaGreat
abbrev ptrH (p : Nat) : Value := .pointer (some ⟨p, 0, none⟩)
abbrev hC (bx : Nat) (oe : Option Nat) (ne ce n : Nat) (ol : Option Nat) (nl c : Nat) : List Value := [.bool true, slV oe ne ce, .int .u64 (n : Int), slV ol nl c, .func (.func 206) #[] #[ptrH bx], .func (.func 207) #[] #[ptrH bx]]
/-- A heap in memory: its block, the one that its functions look at, its elements, its tree. -/
abbrev hR (p bx be ne ce : Nat) (te : List Value) (n bl nl c : Nat) (tl : List Value) (E : List El) (l : List Nat) : Heap := [⟨some p, cl (hC bx (some be) ne ce n (some bl) nl c) 293⟩, ⟨some bx, cl [ptrH p] 242⟩, ⟨some be, cl (E.flatMap encEl ++ te) 300⟩, ⟨some bl, cl (ivn l ++ tl) 3⟩]
theorem rk_dec {E : List El} {a b : Nat} {x y : El} (hx : E[a]? = some x) (hy : E[b]? = some y) (h1 : x.seq < 18446744073709551616) (h2 : y.seq < 18446744073709551616) (v : Bool) (h : v = true ↔ x.key < y.key ∨ (x.key = y.key ∧ x.seq < y.seq)) :
    Value.bool v = Value.bool (decide (rk E a < rk E b)) := by
  rw [rk_of hx, rk_of hy]
  congr 1
  rw [Bool.eq_iff_iff, decide_eq_true_iff, h]
  omega
theorem bef_ok (p bx be ne ce : Nat) (te : List Value) (n bl nl c : Nat) (tl : List Value) (E : List El) (l : List Nat) (hne : E.length = ne) (a b : Nat) (x y : El) (hx : E[a]? = some x) (hy : E[b]? = some y) (h1 : x.seq < 18446744073709551616) (h2 : y.seq < 18446744073709551616) :
    Spec Tryz.prog 206 [.int .i64 (a : Int), .int .i64 (b : Int), ptrH bx] (hR p bx be ne ce te n bl nl c tl E l) (fun r H' => r = .bool (decide (rk E a < rk E b)) ∧ H' = hR p bx be ne ce te n bl nl c tl E l) := by
  have hxl := (List.getElem?_eq_some_iff.1 hx).1
  have hyl := (List.getElem?_eq_some_iff.1 hy).1
  refine Spec.of (E := [(0, .int .i64 (a : Int)), (1, .int .i64 (b : Int)), (2, ptrH bx)]) Tryz.func206 rfl (by kernel_rfl) Tryz.ntmps206 rfl rfl (fun w => ?_)
  refine WC_seq ?_
  refine WC_region ?_
  refine WL_val rfl rfl rfl (R_assign rfl rfl) ?_
  refine WL_nil ?_
  refine WQ_code ?_
  refine WC_seq ?_
  refine WC_drawB _ [(0, .q), (1, .q), (2, .q), (3, .q), (4, .q), (5, .q), (6, .q), (7, .q), (8, .q), (9, .q), (10, .q), (11, .q), (12, .q), (13, .q), (14, .b [15]), (15, .b []), (16, .n []), (17, .n [])] followsMixed rfl rfl (by kernel_rfl) .all ?_
  refine WB_val rfl rfl rfl rfl (R_load rfl sc242 rfl (mmY) rfl) ?_
  refine WB_val rfl rfl rfl rfl (R_nilCheck rfl rfl) ?_
  refine WB_val rfl rfl rfl rfl (R_fieldAddr rfl fa293_1 rfl) ?_
  refine WB_val rfl rfl rfl rfl (R_load rfl sc288 rfl (mmY) rfl) ?_
  refine WB_val rfl rfl rfl rfl (R_move rfl rfl) ?_
  refine WB_val rfl rfl rfl rfl (R_indexAddrN rfl Tryz.underlying288 Tryz.sizeOf300 rfl rfl (by omega)) ?_
  refine WB_val rfl rfl rfl rfl (R_loadA (vs := encEl x) rfl ag300 rfl (mmY) rfl (fm_at0 encEl4 hx (j := 0) (vs := encEl x) (fun j v h => by rw [Nat.zero_add]; exact h) (Nat.le_refl 4))) ?_
  refine WB_val rfl rfl rfl rfl (R_load rfl sc242 rfl (mmY) rfl) ?_
  refine WB_val rfl rfl rfl rfl (R_nilCheck rfl rfl) ?_
  refine WB_val rfl rfl rfl rfl (R_fieldAddr rfl fa293_1 rfl) ?_
  refine WB_val rfl rfl rfl rfl (R_load rfl sc288 rfl (mmY) rfl) ?_
  refine WB_val rfl rfl rfl rfl (R_move rfl rfl) ?_
  refine WB_val rfl rfl rfl rfl (R_indexAddrN rfl Tryz.underlying288 Tryz.sizeOf300 rfl rfl (by omega)) ?_
  refine WB_val rfl rfl rfl rfl (R_loadA (vs := encEl y) rfl ag300 rfl (mmY) rfl (fm_at0 encEl4 hy (j := 0) (vs := encEl y) (fun j v h => by rw [Nat.zero_add]; exact h) (Nat.le_refl 4))) ?_
  refine WB_birth rfl rfl rfl rfl (.cons rfl rfl (B_alloc rfl zv300) .nil) (B_alloc rfl zv300) (fun b1 => ?_)
  refine WB_birth rfl rfl rfl rfl .nil (B_alloc rfl zv300) (fun b2 => ?_)
  refine WB_do0 rfl rfl rfl .nil (fun _ => D_store (vs := [_, _, _, _]) rfl Tryz.sizeOf300 rfl rfl rfl rfl rfl (plY) (by exact Nat.le_of_ble_eq_true rfl)) ?_
  rintro _ _ rfl
  refine ⟨⟨_, pqY⟩, ?_⟩
  refine WB_do0 rfl rfl rfl .nil (fun _ => D_store (vs := [_, _, _, _]) rfl Tryz.sizeOf300 rfl rfl rfl rfl rfl (plY) (by exact Nat.le_of_ble_eq_true rfl)) ?_
  rintro _ _ rfl
  refine ⟨⟨_, pqY⟩, ?_⟩
  refine WB_nil ?_
  refine WQ_code ?_
  refine WC_seq ?_
  refine WC_region ?_
  refine WL_val rfl rfl rfl (R_fieldAddr rfl fa300_0 rfl) ?_
  refine WL_val rfl rfl rfl (R_load rfl sc28 rfl (mmY) rfl) ?_
  refine WL_val rfl rfl rfl (R_fieldAddr rfl fa300_0 rfl) ?_
  refine WL_val rfl rfl rfl (R_load rfl sc28 rfl (mmY) rfl) ?_
  refine WL_val rfl rfl rfl (R_lss rfl rfl rfl) ?_
  refine WL_val rfl rfl rfl (R_move rfl rfl) ?_
  refine WL_splitD (s := 27) rfl (fun c1 => ?_) (fun c1 => ?_)
  · have h27 : ((x.key : Nat) : Int) < (y.key : Nat) := c1
    refine WL_skip rfl rfl rfl ?_
    refine WL_skip rfl rfl rfl ?_
    refine WL_skip rfl rfl rfl ?_
    refine WL_skip rfl rfl rfl ?_
    refine WL_skip rfl rfl rfl ?_
    refine WL_skip rfl rfl rfl ?_
    refine WL_skip rfl rfl rfl ?_
    refine WL_skip rfl rfl rfl ?_
    refine WL_skip rfl rfl rfl ?_
    refine WL_skip rfl rfl rfl ?_
    refine WL_skip rfl rfl rfl ?_
    refine WL_skip rfl rfl rfl ?_
    refine WL_val rfl rfl rfl (R_pickT rfl rfl rfl) ?_
    refine WL_val rfl rfl rfl (R_assign rfl rfl) ?_
    refine WL_nil ?_
    refine WQ_code ?_
    refine WC_ret ?_
    refine WQ_ret rfl rfl (.cons (.tmp rfl) .nil) rfl (by
        exact ⟨rk_dec hx hy h1 h2 _ (by first | (rw [decide_eq_true_eq]; omega) | (simp; omega)), rfl⟩) (pqY)
  · have h27 : ¬ ((x.key : Nat) : Int) < (y.key : Nat) := c1
    refine WL_val rfl rfl rfl (R_fieldAddr rfl fa300_0 rfl) ?_
    refine WL_val rfl rfl rfl (R_load rfl sc28 rfl (mmY) rfl) ?_
    refine WL_val rfl rfl rfl (R_fieldAddr rfl fa300_0 rfl) ?_
    refine WL_val rfl rfl rfl (R_load rfl sc28 rfl (mmY) rfl) ?_
    refine WL_val rfl rfl rfl (R_eql rfl rfl rfl) ?_
    refine WL_val rfl rfl rfl (R_move rfl rfl) ?_
    refine WL_splitD (s := 33) rfl (fun c2 => ?_) (fun c2 => ?_)
    · have h33 : ((x.key : Nat) : Int) = (y.key : Nat) := c2
      refine WL_val rfl rfl rfl (R_fieldAddr rfl fa300_2 rfl) ?_
      refine WL_val rfl rfl rfl (R_load rfl sc27 rfl (mmY) rfl) ?_
      refine WL_val rfl rfl rfl (R_fieldAddr rfl fa300_2 rfl) ?_
      refine WL_val rfl rfl rfl (R_load rfl sc27 rfl (mmY) rfl) ?_
      refine WL_val rfl rfl rfl (R_lss rfl rfl rfl) ?_
      refine WL_val rfl rfl rfl (R_pickT rfl rfl rfl) ?_
      refine WL_val rfl rfl rfl (R_pickF rfl rfl rfl) ?_
      refine WL_val rfl rfl rfl (R_assign rfl rfl) ?_
      refine WL_nil ?_
      refine WQ_code ?_
      refine WC_ret ?_
      refine WQ_ret rfl rfl (.cons (.tmp rfl) .nil) rfl (by
          exact ⟨rk_dec hx hy h1 h2 _ (by first | (rw [decide_eq_true_eq]; omega) | (simp; omega)), rfl⟩) (pqY)
    · have h33 : ¬ ((x.key : Nat) : Int) = (y.key : Nat) := c2
      refine WL_skip rfl rfl rfl ?_
      refine WL_skip rfl rfl rfl ?_
      refine WL_skip rfl rfl rfl ?_
      refine WL_skip rfl rfl rfl ?_
      refine WL_skip rfl rfl rfl ?_
      refine WL_val rfl rfl rfl (R_pickF rfl rfl rfl) ?_
      refine WL_val rfl rfl rfl (R_pickF rfl rfl rfl) ?_
      refine WL_val rfl rfl rfl (R_assign rfl rfl) ?_
      refine WL_nil ?_
      refine WQ_code ?_
      refine WC_ret ?_
      refine WQ_ret rfl rfl (.cons (.tmp rfl) .nil) rfl (by
          exact ⟨rk_dec hx hy h1 h2 _ (by first | (rw [decide_eq_true_eq]; omega) | (simp; omega)), rfl⟩) (pqY)
theorem put_ok (p bx be ne ce : Nat) (te : List Value) (n bl nl c : Nat) (tl : List Value) (E : List El) (l : List Nat) (hne : E.length = ne) (h : Nat) (i : Int) (x : El) (hx : E[h]? = some x) :
    Spec Tryz.prog 207 [.int .i64 (h : Int), .int .i64 i, ptrH bx] (hR p bx be ne ce te n bl nl c tl E l) (fun r H' => r = .tuple #[] ∧ H' = hR p bx be ne ce te n bl nl c tl (setp E h i) l) := by
  have hxl := (List.getElem?_eq_some_iff.1 hx).1
  refine Spec.of (E := [(0, .int .i64 (h : Int)), (1, .int .i64 i), (2, ptrH bx)]) Tryz.func207 rfl (by kernel_rfl) Tryz.ntmps207 rfl rfl (fun w => ?_)
  refine WC_region ?_
  refine WL_val rfl rfl rfl (R_load rfl sc242 rfl (mmY) rfl) ?_
  refine WL_val rfl rfl rfl (R_nilCheck rfl rfl) ?_
  refine WL_val rfl rfl rfl (R_fieldAddr rfl fa293_1 rfl) ?_
  refine WL_val rfl rfl rfl (R_load rfl sc288 rfl (mmY) rfl) ?_
  refine WL_val rfl rfl rfl (R_move rfl rfl) ?_
  refine WL_val rfl rfl rfl (R_move rfl rfl) ?_
  refine WL_val rfl rfl rfl (R_indexAddrN rfl Tryz.underlying288 Tryz.sizeOf300 rfl rfl (by omega)) ?_
  refine WL_val rfl rfl rfl (R_fieldAddr rfl fa300_3 rfl) ?_
  refine WL_do0 rfl rfl (D_store (vs := [_]) rfl Tryz.sizeOf3 rfl rfl rfl rfl rfl (plY) (by exact fm_room0 encEl4 hxl (j := 3) (by omega))) ?_
  rintro _ _ rfl
  have hput := fm_put0 encEl4 ({ x with pos := i } : El) hx (j := 3) (vs := [.int .i64 i]) (by simp) rfl (tl := te)
  rw [hput, setp_of hx i]
  refine WL_nil ?_
  refine WQ_ret rfl rfl .nil rfl (by
      exact ⟨rfl, rfl⟩) (pqY)
theorem swap_ok (p bx be ne ce : Nat) (te : List Value) (n bl nl c : Nat) (tl : List Value) (E : List El) (l : List Nat) (hne : E.length = ne) (hnl : l.length = nl) (a b : Nat) (ha : a < l.length) (hb : b < l.length) (x y : El) (hx : E[gt0 l a]? = some x) (hy : E[gt0 l b]? = some y) :
    Spec Tryz.prog 208 [.pointer (some ⟨p, 3, none⟩), .int .i64 (a : Int), .int .i64 (b : Int)] (hR p bx be ne ce te n bl nl c tl E l) (fun r H' => r = .tuple #[] ∧ H' = hR p bx be ne ce te n bl nl c tl (setp (setp E (gt0 l b) (a : Int)) (gt0 l a) (b : Int)) (sw l a b)) := by
  have hla : l[a]? = some (gt0 l a) := by rw [gt0, List.getElem?_eq_getElem ha]; rfl
  have hlb : l[b]? = some (gt0 l b) := by rw [gt0, List.getElem?_eq_getElem hb]; rfl
  have hsa : (sw l a b)[a]? = some (gt0 l b) := by
    rw [sw_get ha hb]
    by_cases e : a = b
    · subst e; simp
    · simp [e]
  have hsb : (sw l a b)[b]? = some (gt0 l a) := by rw [sw_get ha hb]; simp
  refine Spec.of (E := [(0, .pointer (some ⟨p, 3, none⟩)), (1, .int .i64 (a : Int)), (2, .int .i64 (b : Int))]) Tryz.func208 rfl (by kernel_rfl) Tryz.ntmps208 rfl rfl (fun w => ?_)
  refine WC_seq ?_
  refine WC_drawE [⟨some bl, _⟩] [(0, false), (1, false), (2, false), (3, false), (4, false), (5, false), (6, false), (7, false), (8, false), (9, false), (10, false), (11, false), (12, false), (13, false), (14, false), (15, false), (16, true), (17, false), (18, false), (19, false), (20, false), (21, false), (22, false), (23, true)] [(24, true), (25, false), (26, true), (27, false)] followsMixed rfl rfl (by kernel_rfl) (pqY) ?_
  refine WZ_val rfl rfl rfl rfl (R_move rfl rfl) ?_
  refine WZ_val rfl rfl rfl rfl (R_nilCheck rfl rfl) ?_
  refine WZ_val rfl rfl rfl rfl (R_fieldAddr rfl fa291_0 rfl) ?_
  refine WZ_val rfl rfl rfl rfl (R_load rfl sc34 rfl (mmY) rfl) ?_
  refine WZ_val rfl rfl rfl rfl (R_move rfl rfl) ?_
  refine WZ_val rfl rfl rfl rfl (R_move rfl rfl) ?_
  refine WZ_val rfl rfl rfl rfl (R_nilCheck rfl rfl) ?_
  refine WZ_val rfl rfl rfl rfl (R_fieldAddr rfl fa291_0 rfl) ?_
  refine WZ_val rfl rfl rfl rfl (R_load rfl sc34 rfl (mmY) rfl) ?_
  refine WZ_val rfl rfl rfl rfl (R_move rfl rfl) ?_
  refine WZ_val rfl rfl rfl rfl (R_move rfl rfl) ?_
  refine WZ_val rfl rfl rfl rfl (R_nilCheck rfl rfl) ?_
  refine WZ_val rfl rfl rfl rfl (R_fieldAddr rfl fa291_0 rfl) ?_
  refine WZ_val rfl rfl rfl rfl (R_load rfl sc34 rfl (mmY) rfl) ?_
  refine WZ_val rfl rfl rfl rfl (R_move rfl rfl) ?_
  refine WZ_val rfl rfl rfl rfl (R_indexAddrN rfl Tryz.underlying34 Tryz.sizeOf3 rfl rfl (by omega)) ?_
  refine WZ_early rfl rfl rfl rfl (R_load (v := .int .i64 ((gt0 l b : Nat) : Int)) rfl sc3 rfl (mmY) (fm_get0 encN1 hlb (j := 0) (by omega))) ?_
  refine WZ_val rfl rfl rfl rfl (R_move rfl rfl) ?_
  refine WZ_val rfl rfl rfl rfl (R_nilCheck rfl rfl) ?_
  refine WZ_val rfl rfl rfl rfl (R_fieldAddr rfl fa291_0 rfl) ?_
  refine WZ_val rfl rfl rfl rfl (R_load rfl sc34 rfl (mmY) rfl) ?_
  refine WZ_val rfl rfl rfl rfl (R_move rfl rfl) ?_
  refine WZ_val rfl rfl rfl rfl (R_indexAddrN rfl Tryz.underlying34 Tryz.sizeOf3 rfl rfl (by omega)) ?_
  refine WZ_early rfl rfl rfl rfl (R_load (v := .int .i64 ((gt0 l a : Nat) : Int)) rfl sc3 rfl (mmY) (fm_get0 encN1 hla (j := 0) (by omega))) ?_
  refine WZ_rest ?_
  refine WM_val rfl rfl rfl rfl (R_indexAddrN rfl Tryz.underlying34 Tryz.sizeOf3 rfl rfl (by omega)) ?_
  refine WM_do0 rfl rfl rfl (D_store (vs := [_]) rfl Tryz.sizeOf3 rfl rfl rfl rfl rfl (plY) (by exact fm_room0 encN1 ha (j := 0) (by omega))) ?_
  rintro _ _ rfl
  refine ⟨⟨_, pqY⟩, ?_⟩
  have hput := fm_put0 encN1 (gt0 l b) hla (j := 0) (vs := [.int .i64 ((gt0 l b : Nat) : Int)]) (by simp) rfl (tl := tl)
  rw [Nat.add_zero] at hput
  rw [hput]
  refine WM_val rfl rfl rfl rfl (R_indexAddrN rfl Tryz.underlying34 Tryz.sizeOf3 rfl rfl (by omega)) ?_
  refine WM_do0 rfl rfl rfl (D_store (vs := [_]) rfl Tryz.sizeOf3 rfl rfl rfl rfl rfl (plY) (by exact fm_room0 encN1 (show b < (l.set a (gt0 l b)).length by rw [List.length_set]; exact hb) (j := 0) (by omega))) ?_
  rintro _ _ rfl
  refine ⟨⟨_, pqY⟩, ?_⟩
  obtain ⟨z9, hz9⟩ := exE (T := l.set a (gt0 l b)) (i := b) (by rw [List.length_set]; exact hb)
  have hput2 := fm_put0 encN1 (gt0 l a) hz9 (j := 0) (vs := [.int .i64 ((gt0 l a : Nat) : Int)]) (by simp) rfl (tl := tl)
  rw [Nat.add_zero] at hput2
  rw [hput2, show (l.set a (gt0 l b)).set b (gt0 l a) = sw l a b from rfl]
  refine WM_nil ?_
  refine WQ_code ?_
  refine WC_seq ?_
  refine WC_drawR [⟨some be, _⟩] [(0, true), (1, true), (2, true), (3, true), (4, true), (5, true), (6, true), (7, true), (8, true), (9, true), (10, true), (11, true), (12, false)] followsMixed rfl rfl (by kernel_rfl) (pqY) ?_
  refine WM_val rfl rfl rfl rfl (R_move rfl rfl) ?_
  refine WM_val rfl rfl rfl rfl (R_nilCheck rfl rfl) ?_
  refine WM_val rfl rfl rfl rfl (R_fieldAddr rfl fa291_2 rfl) ?_
  refine WM_val rfl rfl rfl rfl (R_load rfl sc289 rfl (mmY) rfl) ?_
  refine WM_val rfl rfl rfl rfl (R_move rfl rfl) ?_
  refine WM_val rfl rfl rfl rfl (R_nilCheck rfl rfl) ?_
  refine WM_val rfl rfl rfl rfl (R_fieldAddr rfl fa291_0 rfl) ?_
  refine WM_val rfl rfl rfl rfl (R_load rfl sc34 rfl (mmY) rfl) ?_
  refine WM_val rfl rfl rfl rfl (R_move rfl rfl) ?_
  refine WM_val rfl rfl rfl rfl (R_indexAddrN rfl Tryz.underlying34 Tryz.sizeOf3 rfl rfl (by omega)) ?_
  refine WM_val rfl rfl rfl rfl (R_load (v := .int .i64 ((gt0 l b : Nat) : Int)) rfl sc3 rfl (mmY) (fm_get0 encN1 hsa (j := 0) (by omega))) ?_
  refine WM_val rfl rfl rfl rfl (R_move rfl rfl) ?_
  refine WM_do rfl rfl rfl rfl (D_call (put_ok p bx be ne ce te n bl nl c tl E (sw l a b) hne (gt0 l b) (a : Int) y hy) rfl rfl rfl rfl (pqY)) ?_
  rintro _ _ ⟨_, ⟨rfl, rfl⟩, rfl⟩
  refine ⟨⟨_, pqY⟩, ?_⟩
  refine WM_nil ?_
  refine WQ_code ?_
  refine WC_drawR [⟨some be, _⟩] [(0, true), (1, true), (2, true), (3, true), (4, true), (5, true), (6, true), (7, true), (8, true), (9, true), (10, true), (11, true), (12, false)] followsMixed rfl rfl (by kernel_rfl) (pqY) ?_
  refine WM_val rfl rfl rfl rfl (R_move rfl rfl) ?_
  refine WM_val rfl rfl rfl rfl (R_nilCheck rfl rfl) ?_
  refine WM_val rfl rfl rfl rfl (R_fieldAddr rfl fa291_2 rfl) ?_
  refine WM_val rfl rfl rfl rfl (R_load rfl sc289 rfl (mmY) rfl) ?_
  refine WM_val rfl rfl rfl rfl (R_move rfl rfl) ?_
  refine WM_val rfl rfl rfl rfl (R_nilCheck rfl rfl) ?_
  refine WM_val rfl rfl rfl rfl (R_fieldAddr rfl fa291_0 rfl) ?_
  refine WM_val rfl rfl rfl rfl (R_load rfl sc34 rfl (mmY) rfl) ?_
  refine WM_val rfl rfl rfl rfl (R_move rfl rfl) ?_
  refine WM_val rfl rfl rfl rfl (R_indexAddrN rfl Tryz.underlying34 Tryz.sizeOf3 rfl rfl (by omega)) ?_
  refine WM_val rfl rfl rfl rfl (R_load (v := .int .i64 ((gt0 l a : Nat) : Int)) rfl sc3 rfl (mmY) (fm_get0 encN1 hsb (j := 0) (by omega))) ?_
  refine WM_val rfl rfl rfl rfl (R_move rfl rfl) ?_
  refine WM_do rfl rfl rfl rfl (D_call (put_ok p bx be ne ce te n bl nl c tl (setp E (gt0 l b) (a : Int)) (sw l a b) (by rw [setp_len]; exact hne) (gt0 l a) (b : Int) _ (setp_get hx)) rfl rfl rfl rfl (pqY)) ?_
  rintro _ _ ⟨_, ⟨rfl, rfl⟩, rfl⟩
  refine ⟨⟨_, pqY⟩, ?_⟩
  refine WM_nil ?_
  refine WQ_ret rfl rfl .nil rfl (by
      exact ⟨rfl, rfl⟩) (pqY)
end Go.Proofs.YtbkdebnkoidicaaGreat
end
