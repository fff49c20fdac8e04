/-
  Chapter 46 (pool), part Fifo: contracts of functions that the laws call, each for the heap it names.
-/
import Derived.Test.YteofigbgdbpjgaaRows
import Derived.Test.YteofigbgdbpjgaaZB
import Derived.Test.YteofigbgdbpjgaaSLMapJ
import Derived.Test.YteofigbgdbpjgaaSLScope
import Derived.Test.YteofigbgdbpjgaaTab
import Derived.Test.YteofigbgdbpjgaaFifoL
set_option linter.unusedVariables false
set_option maxRecDepth 20000
set_option maxHeartbeats 1000000
namespace Go.Proofs.Yteofigbgdbpjgaa


abbrev ptrQ (p : Nat) : Value := .pointer (some ⟨p, 0, none⟩)
/-- A queue in memory: its block, its map's. -/
abbrev qR (p mb f la n : Nat) (es : Array MapEntry) (mc : Nat) : Heap := [⟨some p, cl [.int .u64 (f : Int), .int .u64 (la : Int), .int .u64 (n : Int), .map (some mb)] 123⟩, ⟨some mb, .map es mc⟩]
abbrev qH (p mb : Nat) (l : List (Nat × Int)) (n : Nat) (es : Array MapEntry) (mc : Nat) : Heap := qR p mb (hd 0 l) (lst 0 l) n es mc
theorem qnew_ok : Spec Try.prog 25 [] [] (fun r H' => ∃ p mb, r = ptrQ p ∧ H' = qH p mb [] 0 #[] 0) := by
  refine Spec.of (E := []) Try.func25 rfl (by kernel_rfl) Try.ntmps25 rfl rfl (fun w => ?_)
  refine WC_seq ?_
  refine WC_region ?_
  refine WL_val rfl rfl rfl (R_assign rfl rfl) ?_
  refine WL_nil ?_
  refine WQ_code ?_
  refine WC_seq ?_
  refine WC_region ?_
  refine WL_do rfl rfl rfl (D_makeMap rfl) ?_
  rintro _ _ ⟨mb, rfl, rfl⟩
  refine WL_val rfl rfl rfl (R_build rfl zv123 pl123 rfl rfl) ?_
  refine WL_do rfl rfl rfl (D_box (cs := [_, _, _, _]) rfl rfl rfl) ?_
  rintro _ _ ⟨b1, rfl, rfl⟩
  refine WL_val rfl rfl rfl (R_assign rfl rfl) ?_
  refine WL_nil ?_
  refine WQ_code ?_
  refine WC_ret ?_
  refine WQ_ret rfl rfl (.cons (.tmp rfl) .nil) rfl (by
      exact ⟨_, mb, rfl, rfl⟩) (pqZ)
theorem mp_new : Mp (.int .u64) ekQ evQ #[] (nds 0 0 []) := Mp.empty ekQ_key ekQ_inj
theorem qzero_ok (p mb f la n : Nat) (es : Array MapEntry) (mc : Nat) : Spec Try.prog 68 [ptrQ p] (qR p mb f la n es mc) (fun r H' => r = .bool false ∧ H' = qR p mb f la n es mc) := by
  refine Spec.of (E := [(0, ptrQ p)]) Try.func68 rfl (by kernel_rfl) Try.ntmps68 rfl rfl (fun w => ?_)
  refine WC_seq ?_
  refine WC_region ?_
  refine WL_val rfl rfl rfl (R_assign rfl rfl) ?_
  refine WL_nil ?_
  refine WQ_code ?_
  refine WC_seq ?_
  refine WC_region ?_
  refine WL_val rfl rfl rfl (R_move rfl rfl) ?_
  refine WL_val rfl rfl rfl (R_ptrEqNil rfl Try.underlying68 rfl) ?_
  refine WL_val rfl rfl rfl (R_move rfl rfl) ?_
  refine WL_val rfl rfl rfl (R_move rfl rfl) ?_
  refine WL_val rfl rfl rfl (R_nilCheck rfl rfl) ?_
  refine WL_val rfl rfl rfl (R_fieldAddr rfl fa123_1 rfl) ?_
  refine WL_val rfl rfl rfl (R_load rfl sc119 rfl (mmZ) rfl) ?_
  refine WL_val rfl rfl rfl (R_mapEqNil rfl Try.underlying119 rfl) ?_
  refine WL_set (s := 10) (v := .bool false) rfl (by rfl) ?_
  refine WL_val rfl rfl rfl (R_pickF rfl rfl rfl) ?_
  refine WL_val rfl rfl rfl (R_assign rfl rfl) ?_
  refine WL_nil ?_
  refine WQ_code ?_
  refine WC_ret ?_
  refine WQ_ret rfl rfl (.cons (.tmp rfl) .nil) rfl (by
      exact ⟨rfl, rfl⟩) (pqZ)
theorem qzero_nil : Spec Try.prog 68 [.pointer none] [] (fun r H' => r = .bool true ∧ H' = []) := by
  refine Spec.of (E := [(0, .pointer none)]) Try.func68 rfl (by kernel_rfl) Try.ntmps68 rfl rfl (fun w => ?_)
  refine WC_seq ?_
  refine WC_region ?_
  refine WL_val rfl rfl rfl (R_assign rfl rfl) ?_
  refine WL_nil ?_
  refine WQ_code ?_
  refine WC_seq ?_
  refine WC_region ?_
  refine WL_val rfl rfl rfl (R_move rfl rfl) ?_
  refine WL_val rfl rfl rfl (R_ptrEqNil rfl Try.underlying68 rfl) ?_
  refine WL_val rfl rfl rfl (R_move rfl rfl) ?_
  refine WL_skip rfl rfl rfl ?_
  refine WL_skip rfl rfl rfl ?_
  refine WL_skip rfl rfl rfl ?_
  refine WL_skip rfl rfl rfl ?_
  refine WL_skip rfl rfl rfl ?_
  refine WL_val rfl rfl rfl (R_pickT rfl rfl rfl) ?_
  refine WL_val rfl rfl rfl (R_assign rfl rfl) ?_
  refine WL_nil ?_
  refine WQ_code ?_
  refine WC_ret ?_
  refine WQ_ret rfl rfl (.cons (.tmp rfl) .nil) rfl (by
      exact ⟨rfl, rfl⟩) (pqZ)
theorem qpush_raw (p mb : Nat) (l : List (Nat × Int)) (n : Nat) (es : Array MapEntry) (mc : Nat) (hq : Qk l n) (hM : Mp (.int .u64) ekQ evQ es (nds 0 0 l)) (hl : l.length < 4096) (hn : n < 1000000000000) (v : Int) : Spec Try.prog 44 [ptrQ p, .int .i64 v] (qH p mb l n es mc)
    (fun r H' => ∃ es' mc' f la, r = .tuple #[.int .u64 ((n + 1 : Nat) : Int), .int .i64 0] ∧ H' = qR p mb f la (n + 1) es' mc' ∧ f = hd 0 (l ++ [(n + 1, v)]) ∧ la = lst 0 (l ++ [(n + 1, v)]) ∧ Mp (.int .u64) ekQ evQ es' (nds 0 0 (l ++ [(n + 1, v)]))) := by
  refine Spec.of (E := [(0, ptrQ p), (1, .int .i64 v)]) Try.func44 rfl (by kernel_rfl) Try.ntmps44 rfl rfl (fun w => ?_)
  refine WC_seq ?_
  refine WC_region ?_
  refine WL_val rfl rfl rfl (R_assign rfl rfl) ?_
  refine WL_val rfl rfl rfl (R_assign rfl rfl) ?_
  refine WL_nil ?_
  refine WQ_code ?_
  refine WC_seq ?_
  refine WC_block ?_
  refine WC_seq ?_
  refine WC_region ?_
  refine WL_val rfl rfl rfl (R_move rfl rfl) ?_
  refine WL_do rfl rfl rfl (D_call (qzero_ok p mb _ _ _ es mc) rfl rfl rfl rfl (pqZ)) ?_
  rintro _ _ ⟨_, ⟨rfl, rfl⟩, rfl⟩
  refine WL_val rfl rfl rfl (R_assign rfl rfl) ?_
  refine WL_nil ?_
  refine WQ_code ?_
  refine WC_F rfl ?_
  refine WC_seq ?_
  refine WC_region ?_
  refine WL_val rfl rfl rfl (R_move rfl rfl) ?_
  refine WL_val rfl rfl rfl (R_nilCheck rfl rfl) ?_
  refine WL_val rfl rfl rfl (R_fieldAddr rfl fa123_1 rfl) ?_
  refine WL_val rfl rfl rfl (R_load rfl sc119 rfl (mmZ) rfl) ?_
  refine WL_val rfl rfl rfl (R_lenMap rfl Try.underlying119 rfl (mmZ) hM) ?_
  refine WL_val rfl rfl rfl (R_geq rfl rfl rfl) ?_
  refine WL_val rfl rfl rfl (R_assign rfl rfl) ?_
  refine WL_nil ?_
  refine WQ_code ?_
  refine WC_dF rfl (by rw [nds_len]; omega) ?_
  refine WC_skip ?_
  refine WQ_code ?_
  refine WC_seq ?_
  refine WC_region ?_
  refine WL_val rfl rfl rfl (R_move rfl rfl) ?_
  refine WL_val rfl rfl rfl (R_nilCheck rfl rfl) ?_
  refine WL_val rfl rfl rfl (R_fieldAddr rfl fa123_0 rfl) ?_
  refine WL_val rfl rfl rfl (R_fieldAddr rfl fa121_2 rfl) ?_
  refine WL_val rfl rfl rfl (R_load rfl sc27 rfl (mmZ) rfl) ?_
  refine WL_val rfl rfl rfl (R_addR (r := ((n + 1 : Nat) : Int)) rfl rfl rfl (by rw [w64 ⟨by omega, by omega⟩]; omega)) ?_
  refine WL_val rfl rfl rfl (R_nilCheck rfl rfl) ?_
  refine WL_val rfl rfl rfl (R_fieldAddr rfl fa123_0 rfl) ?_
  refine WL_val rfl rfl rfl (R_fieldAddr rfl fa121_2 rfl) ?_
  refine WL_do0 rfl rfl (D_store (vs := [_]) rfl Try.sizeOf27 rfl rfl rfl rfl rfl (plZ) (by exact Nat.le_of_ble_eq_true rfl)) ?_
  rintro _ _ rfl
  refine WL_nil ?_
  refine WQ_code ?_
  refine WC_seq ?_
  refine WC_drawR [⟨some mb, _⟩] [(0, true), (1, true), (2, true), (3, true), (4, true), (5, true), (6, true), (7, true), (8, true), (9, true), (10, true), (11, true), (12, true), (13, true), (14, true), (15, true), (16, false)] followsMixed rfl rfl (by kernel_rfl) (pqZ) ?_
  refine WM_val rfl rfl rfl rfl (R_move rfl rfl) ?_
  refine WM_val rfl rfl rfl rfl (R_nilCheck rfl rfl) ?_
  refine WM_val rfl rfl rfl rfl (R_fieldAddr rfl fa123_1 rfl) ?_
  refine WM_val rfl rfl rfl rfl (R_load rfl sc119 rfl (mmZ) rfl) ?_
  refine WM_val rfl rfl rfl rfl (R_move rfl rfl) ?_
  refine WM_val rfl rfl rfl rfl (R_nilCheck rfl rfl) ?_
  refine WM_val rfl rfl rfl rfl (R_fieldAddr rfl fa123_0 rfl) ?_
  refine WM_val rfl rfl rfl rfl (R_fieldAddr rfl fa121_2 rfl) ?_
  refine WM_val rfl rfl rfl rfl (R_load rfl sc27 rfl (mmZ) rfl) ?_
  refine WM_val rfl rfl rfl rfl (R_move rfl rfl) ?_
  refine WM_val rfl rfl rfl rfl (R_move rfl rfl) ?_
  refine WM_val rfl rfl rfl rfl (R_nilCheck rfl rfl) ?_
  refine WM_val rfl rfl rfl rfl (R_fieldAddr rfl fa123_0 rfl) ?_
  refine WM_val rfl rfl rfl rfl (R_fieldAddr rfl fa121_1 rfl) ?_
  refine WM_val rfl rfl rfl rfl (R_load rfl sc27 rfl (mmZ) rfl) ?_
  refine WM_val rfl rfl rfl rfl (R_build rfl zv129 pl129 rfl rfl) ?_
  refine WM_do0 rfl rfl rfl (D_mapAdd (ek := ekQ) (ev := evQ) (k := n + 1) (v := (⟨v, lst 0 l, 0⟩ : Nd)) rfl Try.underlying119 Try.underlying27 rfl rfl rfl (plZ) hM (hq.new)) ?_
  rintro _ _ ⟨es1, mc1, hM1, rfl⟩
  refine ⟨⟨_, pqZ⟩, ?_⟩
  refine WM_nil ?_
  refine WQ_code ?_
  refine WC_seq ?_
  refine WC_seq ?_
  refine WC_region ?_
  refine WL_val rfl rfl rfl (R_move rfl rfl) ?_
  refine WL_val rfl rfl rfl (R_nilCheck rfl rfl) ?_
  refine WL_val rfl rfl rfl (R_fieldAddr rfl fa123_0 rfl) ?_
  refine WL_val rfl rfl rfl (R_fieldAddr rfl fa121_1 rfl) ?_
  refine WL_val rfl rfl rfl (R_load rfl sc27 rfl (mmZ) rfl) ?_
  refine WL_val rfl rfl rfl (R_eql rfl rfl rfl) ?_
  refine WL_nil ?_
  refine WQ_code ?_
  refine WC_dec rfl (fun c1 => ?_) (fun c1 => ?_)
  · obtain rfl : l = [] := hq.lst0.1 (by omega)
    refine WC_region ?_
    refine WL_val rfl rfl rfl (R_move rfl rfl) ?_
    refine WL_val rfl rfl rfl (R_move rfl rfl) ?_
    refine WL_val rfl rfl rfl (R_nilCheck rfl rfl) ?_
    refine WL_val rfl rfl rfl (R_fieldAddr rfl fa123_0 rfl) ?_
    refine WL_val rfl rfl rfl (R_fieldAddr rfl fa121_2 rfl) ?_
    refine WL_val rfl rfl rfl (R_load rfl sc27 rfl (mmZ) rfl) ?_
    refine WL_val rfl rfl rfl (R_nilCheck rfl rfl) ?_
    refine WL_val rfl rfl rfl (R_fieldAddr rfl fa123_0 rfl) ?_
    refine WL_val rfl rfl rfl (R_fieldAddr rfl fa121_0 rfl) ?_
    refine WL_do0 rfl rfl (D_store (vs := [_]) rfl Try.sizeOf27 rfl rfl rfl rfl rfl (plZ) (by exact Nat.le_of_ble_eq_true rfl)) ?_
    rintro _ _ rfl
    refine WL_nil ?_
    refine WQ_code ?_
    refine WC_seq ?_
    refine WC_region ?_
    refine WL_val rfl rfl rfl (R_move rfl rfl) ?_
    refine WL_val rfl rfl rfl (R_move rfl rfl) ?_
    refine WL_val rfl rfl rfl (R_nilCheck rfl rfl) ?_
    refine WL_val rfl rfl rfl (R_fieldAddr rfl fa123_0 rfl) ?_
    refine WL_val rfl rfl rfl (R_fieldAddr rfl fa121_2 rfl) ?_
    refine WL_val rfl rfl rfl (R_load rfl sc27 rfl (mmZ) rfl) ?_
    refine WL_val rfl rfl rfl (R_nilCheck rfl rfl) ?_
    refine WL_val rfl rfl rfl (R_fieldAddr rfl fa123_0 rfl) ?_
    refine WL_val rfl rfl rfl (R_fieldAddr rfl fa121_1 rfl) ?_
    refine WL_do0 rfl rfl (D_store (vs := [_]) rfl Try.sizeOf27 rfl rfl rfl rfl rfl (plZ) (by exact Nat.le_of_ble_eq_true rfl)) ?_
    rintro _ _ rfl
    refine WL_nil ?_
    refine WQ_code ?_
    refine WC_seq ?_
    refine WC_region ?_
    refine WL_val rfl rfl rfl (R_move rfl rfl) ?_
    refine WL_val rfl rfl rfl (R_nilCheck rfl rfl) ?_
    refine WL_val rfl rfl rfl (R_fieldAddr rfl fa123_0 rfl) ?_
    refine WL_val rfl rfl rfl (R_fieldAddr rfl fa121_2 rfl) ?_
    refine WL_val rfl rfl rfl (R_load rfl sc27 rfl (mmZ) rfl) ?_
    refine WL_val rfl rfl rfl (R_assign rfl rfl) ?_
    refine WL_val rfl rfl rfl (R_assign rfl rfl) ?_
    refine WL_nil ?_
    refine WQ_code ?_
    refine WC_ret ?_
    refine WQ_ret rfl rfl (.cons (.tmp rfl) (.cons (.tmp rfl) .nil)) rfl (by
        exact ⟨_, mc1, n + 1, n + 1, rfl, rfl, rfl, rfl, hM1⟩) (pqZ)
  · have hl0 : l ≠ [] := fun e => c1 (by rw [e]; rfl)
    obtain ⟨w9, bq, hin⟩ := lst_in 0 l 0 hl0
    refine WC_seq ?_
    refine WC_draw _ [(0, true), (1, true), (2, true), (3, true), (4, true), (5, true), (6, true), (7, true), (8, true), (9, true), (10, false), (11, false)] followsMixed rfl rfl (by kernel_rfl) .all ?_
    refine WM_val rfl rfl rfl rfl (R_move rfl rfl) ?_
    refine WM_val rfl rfl rfl rfl (R_nilCheck rfl rfl) ?_
    refine WM_val rfl rfl rfl rfl (R_fieldAddr rfl fa123_1 rfl) ?_
    refine WM_val rfl rfl rfl rfl (R_load rfl sc119 rfl (mmZ) rfl) ?_
    refine WM_val rfl rfl rfl rfl (R_move rfl rfl) ?_
    refine WM_val rfl rfl rfl rfl (R_nilCheck rfl rfl) ?_
    refine WM_val rfl rfl rfl rfl (R_fieldAddr rfl fa123_0 rfl) ?_
    refine WM_val rfl rfl rfl rfl (R_fieldAddr rfl fa121_1 rfl) ?_
    refine WM_val rfl rfl rfl rfl (R_load rfl sc27 rfl (mmZ) rfl) ?_
    refine WM_val rfl rfl rfl rfl (R_look (ek := ekQ) (ev := evQ) (k := lst 0 l) (a := ⟨w9, bq, 0⟩) rfl Try.underlying119 Try.underlying27 rfl rfl (mmZ) hM1 (List.mem_cons_of_mem _ hin)) ?_
    refine WM_do rfl rfl rfl rfl (D_alloc rfl zv129) ?_
    rintro _ _ ⟨b1, rfl, rfl⟩
    refine ⟨⟨_, pqZ⟩, ?_⟩
    refine WM_do0 rfl rfl rfl (D_store (vs := [_, _, _]) rfl Try.sizeOf129 rfl rfl rfl rfl rfl (plZ) (by exact Nat.le_of_ble_eq_true rfl)) ?_
    rintro _ _ rfl
    refine ⟨⟨_, pqZ⟩, ?_⟩
    refine WM_nil ?_
    refine WQ_code ?_
    refine WC_seq ?_
    refine WC_region ?_
    refine WL_val rfl rfl rfl (R_move rfl rfl) ?_
    refine WL_val rfl rfl rfl (R_nilCheck rfl rfl) ?_
    refine WL_val rfl rfl rfl (R_fieldAddr rfl fa123_0 rfl) ?_
    refine WL_val rfl rfl rfl (R_fieldAddr rfl fa121_2 rfl) ?_
    refine WL_val rfl rfl rfl (R_load rfl sc27 rfl (mmZ) rfl) ?_
    refine WL_val rfl rfl rfl (R_fieldAddr rfl fa129_2 rfl) ?_
    refine WL_do0 rfl rfl (D_store (vs := [_]) rfl Try.sizeOf27 rfl rfl rfl rfl rfl (plZ) (by exact Nat.le_of_ble_eq_true rfl)) ?_
    rintro _ _ rfl
    refine WL_nil ?_
    refine WQ_code ?_
    refine WC_drawR [⟨some mb, _⟩] [(0, true), (1, true), (2, true), (3, true), (4, true), (5, true), (6, true), (7, true), (8, true), (9, true), (10, false)] followsMixed rfl rfl (by kernel_rfl) (pqZ) ?_
    refine WM_val rfl rfl rfl rfl (R_move rfl rfl) ?_
    refine WM_val rfl rfl rfl rfl (R_nilCheck rfl rfl) ?_
    refine WM_val rfl rfl rfl rfl (R_fieldAddr rfl fa123_1 rfl) ?_
    refine WM_val rfl rfl rfl rfl (R_load rfl sc119 rfl (mmZ) rfl) ?_
    refine WM_val rfl rfl rfl rfl (R_move rfl rfl) ?_
    refine WM_val rfl rfl rfl rfl (R_nilCheck rfl rfl) ?_
    refine WM_val rfl rfl rfl rfl (R_fieldAddr rfl fa123_0 rfl) ?_
    refine WM_val rfl rfl rfl rfl (R_fieldAddr rfl fa121_1 rfl) ?_
    refine WM_val rfl rfl rfl rfl (R_load rfl sc27 rfl (mmZ) rfl) ?_
    refine WM_val rfl rfl rfl rfl (R_loadA (vs := [_, _, _]) rfl ag129 rfl (mmZ) rfl (atZ)) ?_
    refine WM_do0 rfl rfl rfl (D_mapSet (ek := ekQ) (ev := evQ) (k := lst 0 l) (a := ⟨w9, bq, 0⟩) (v := (⟨w9, bq, n + 1⟩ : Nd)) rfl Try.underlying119 Try.underlying27 rfl rfl rfl (plZ) hM1 (List.mem_cons_of_mem _ hin)) ?_
    rintro _ _ ⟨es2, mc2, hM2, rfl⟩
    refine ⟨⟨_, pqZ⟩, ?_⟩
    refine WM_nil ?_
    refine WQ_code ?_
    refine WC_seq ?_
    refine WC_region ?_
    refine WL_val rfl rfl rfl (R_move rfl rfl) ?_
    refine WL_val rfl rfl rfl (R_move rfl rfl) ?_
    refine WL_val rfl rfl rfl (R_nilCheck rfl rfl) ?_
    refine WL_val rfl rfl rfl (R_fieldAddr rfl fa123_0 rfl) ?_
    refine WL_val rfl rfl rfl (R_fieldAddr rfl fa121_2 rfl) ?_
    refine WL_val rfl rfl rfl (R_load rfl sc27 rfl (mmZ) rfl) ?_
    refine WL_val rfl rfl rfl (R_nilCheck rfl rfl) ?_
    refine WL_val rfl rfl rfl (R_fieldAddr rfl fa123_0 rfl) ?_
    refine WL_val rfl rfl rfl (R_fieldAddr rfl fa121_1 rfl) ?_
    refine WL_do0 rfl rfl (D_store (vs := [_]) rfl Try.sizeOf27 rfl rfl rfl rfl rfl (plZ) (by exact Nat.le_of_ble_eq_true rfl)) ?_
    rintro _ _ rfl
    refine WL_nil ?_
    refine WQ_code ?_
    refine WC_seq ?_
    refine WC_region ?_
    refine WL_val rfl rfl rfl (R_move rfl rfl) ?_
    refine WL_val rfl rfl rfl (R_nilCheck rfl rfl) ?_
    refine WL_val rfl rfl rfl (R_fieldAddr rfl fa123_0 rfl) ?_
    refine WL_val rfl rfl rfl (R_fieldAddr rfl fa121_2 rfl) ?_
    refine WL_val rfl rfl rfl (R_load rfl sc27 rfl (mmZ) rfl) ?_
    refine WL_val rfl rfl rfl (R_assign rfl rfl) ?_
    refine WL_val rfl rfl rfl (R_assign rfl rfl) ?_
    refine WL_nil ?_
    refine WQ_code ?_
    refine WC_ret ?_
    refine WQ_ret rfl rfl (.cons (.tmp rfl) (.cons (.tmp rfl) .nil)) rfl (by
        exact ⟨_, mc2, hd 0 l, n + 1, rfl, rfl, by rw [hd_append]; exact hd_ne hl0, by rw [lst_append]; rfl, hM2.to (push_list hq v hl0 hin)⟩) (pqZ)
theorem qpush_ok (p mb : Nat) (l : List (Nat × Int)) (n : Nat) (es : Array MapEntry) (mc : Nat) (hq : Qk l n) (hM : Mp (.int .u64) ekQ evQ es (nds 0 0 l)) (hl : l.length < 4096) (hn : n < 1000000000000) (v : Int) : Spec Try.prog 44 [ptrQ p, .int .i64 v] (qH p mb l n es mc)
    (fun r H' => ∃ es' mc', r = .tuple #[.int .u64 ((n + 1 : Nat) : Int), .int .i64 0] ∧ H' = qH p mb (l ++ [(n + 1, v)]) (n + 1) es' mc' ∧ Mp (.int .u64) ekQ evQ es' (nds 0 0 (l ++ [(n + 1, v)]))) :=
  (qpush_raw p mb l n es mc hq hM hl hn v).mono fun r H' ⟨es', mc', f, la, h1, h2, h3, h4, h5⟩ => by subst h3; subst h4; exact ⟨es', mc', h1, h2, h5⟩
theorem qfront_none (p mb n : Nat) (es : Array MapEntry) (mc : Nat) : Spec Try.prog 89 [ptrQ p] (qH p mb [] n es mc) (fun r H' => r = .tuple #[.int .i64 0, .int .u64 0, .int .i64 9] ∧ H' = qH p mb [] n es mc) := by
  refine Spec.of (E := [(0, ptrQ p)]) Try.func89 rfl (by kernel_rfl) Try.ntmps89 rfl rfl (fun w => ?_)
  refine WC_seq ?_
  refine WC_region ?_
  refine WL_val rfl rfl rfl (R_assign rfl rfl) ?_
  refine WL_val rfl rfl rfl (R_assign rfl rfl) ?_
  refine WL_val rfl rfl rfl (R_assign rfl rfl) ?_
  refine WL_nil ?_
  refine WQ_code ?_
  refine WC_seq ?_
  refine WC_block ?_
  refine WC_seq ?_
  refine WC_region ?_
  refine WL_val rfl rfl rfl (R_move rfl rfl) ?_
  refine WL_do rfl rfl rfl (D_call (qzero_ok p mb _ _ _ es mc) rfl rfl rfl rfl (pqZ)) ?_
  rintro _ _ ⟨_, ⟨rfl, rfl⟩, rfl⟩
  refine WL_val rfl rfl rfl (R_assign rfl rfl) ?_
  refine WL_nil ?_
  refine WQ_code ?_
  refine WC_F rfl ?_
  refine WC_seq ?_
  refine WC_region ?_
  refine WL_val rfl rfl rfl (R_move rfl rfl) ?_
  refine WL_val rfl rfl rfl (R_nilCheck rfl rfl) ?_
  refine WL_val rfl rfl rfl (R_fieldAddr rfl fa123_0 rfl) ?_
  refine WL_val rfl rfl rfl (R_fieldAddr rfl fa121_0 rfl) ?_
  refine WL_val rfl rfl rfl (R_load rfl sc27 rfl (mmZ) rfl) ?_
  refine WL_val rfl rfl rfl (R_eql rfl rfl rfl) ?_
  refine WL_val rfl rfl rfl (R_assign rfl rfl) ?_
  refine WL_nil ?_
  refine WQ_code ?_
  refine WC_dT rfl (by rfl) ?_
  refine WC_seq ?_
  refine WC_region ?_
  refine WL_val rfl rfl rfl (R_assign rfl rfl) ?_
  refine WL_val rfl rfl rfl (R_assign rfl rfl) ?_
  refine WL_val rfl rfl rfl (R_assign rfl rfl) ?_
  refine WL_nil ?_
  refine WQ_code ?_
  refine WC_ret ?_
  refine WQ_ret rfl rfl (.cons (.tmp rfl) (.cons (.tmp rfl) (.cons (.tmp rfl) .nil))) rfl (by
      exact ⟨rfl, rfl⟩) (pqZ)
theorem qfront_ok (p mb t : Nat) (v : Int) (l : List (Nat × Int)) (n : Nat) (es : Array MapEntry) (mc : Nat) (hq : Qk ((t, v) :: l) n) (hM : Mp (.int .u64) ekQ evQ es (nds 0 0 ((t, v) :: l))) : Spec Try.prog 89 [ptrQ p] (qH p mb ((t, v) :: l) n es mc)
    (fun r H' => r = .tuple #[.int .i64 v, .int .u64 (t : Int), .int .i64 0] ∧ H' = qH p mb ((t, v) :: l) n es mc) := by
  have ht := (hq.pos _ (List.mem_cons_self ..)).1
  refine Spec.of (E := [(0, ptrQ p)]) Try.func89 rfl (by kernel_rfl) Try.ntmps89 rfl rfl (fun w => ?_)
  refine WC_seq ?_
  refine WC_region ?_
  refine WL_val rfl rfl rfl (R_assign rfl rfl) ?_
  refine WL_val rfl rfl rfl (R_assign rfl rfl) ?_
  refine WL_val rfl rfl rfl (R_assign rfl rfl) ?_
  refine WL_nil ?_
  refine WQ_code ?_
  refine WC_seq ?_
  refine WC_block ?_
  refine WC_seq ?_
  refine WC_region ?_
  refine WL_val rfl rfl rfl (R_move rfl rfl) ?_
  refine WL_do rfl rfl rfl (D_call (qzero_ok p mb _ _ _ es mc) rfl rfl rfl rfl (pqZ)) ?_
  rintro _ _ ⟨_, ⟨rfl, rfl⟩, rfl⟩
  refine WL_val rfl rfl rfl (R_assign rfl rfl) ?_
  refine WL_nil ?_
  refine WQ_code ?_
  refine WC_F rfl ?_
  refine WC_seq ?_
  refine WC_region ?_
  refine WL_val rfl rfl rfl (R_move rfl rfl) ?_
  refine WL_val rfl rfl rfl (R_nilCheck rfl rfl) ?_
  refine WL_val rfl rfl rfl (R_fieldAddr rfl fa123_0 rfl) ?_
  refine WL_val rfl rfl rfl (R_fieldAddr rfl fa121_0 rfl) ?_
  refine WL_val rfl rfl rfl (R_load rfl sc27 rfl (mmZ) rfl) ?_
  refine WL_val rfl rfl rfl (R_eql rfl rfl rfl) ?_
  refine WL_val rfl rfl rfl (R_assign rfl rfl) ?_
  refine WL_nil ?_
  refine WQ_code ?_
  refine WC_dF rfl (by (show ¬ ((t : Int) = 0)); omega) ?_
  refine WC_skip ?_
  refine WQ_code ?_
  refine WC_seq ?_
  refine WC_draw _ [(0, true), (1, true), (2, true), (3, true), (4, true), (5, true), (6, true), (7, true), (8, true), (9, true), (10, true), (11, true), (12, true), (13, true), (14, true), (15, true), (16, true), (17, true), (18, true)] followsMixed rfl rfl (by kernel_rfl) .all ?_
  refine WM_val rfl rfl rfl rfl (R_move rfl rfl) ?_
  refine WM_val rfl rfl rfl rfl (R_nilCheck rfl rfl) ?_
  refine WM_val rfl rfl rfl rfl (R_fieldAddr rfl fa123_1 rfl) ?_
  refine WM_val rfl rfl rfl rfl (R_load rfl sc119 rfl (mmZ) rfl) ?_
  refine WM_val rfl rfl rfl rfl (R_move rfl rfl) ?_
  refine WM_val rfl rfl rfl rfl (R_nilCheck rfl rfl) ?_
  refine WM_val rfl rfl rfl rfl (R_fieldAddr rfl fa123_0 rfl) ?_
  refine WM_val rfl rfl rfl rfl (R_fieldAddr rfl fa121_0 rfl) ?_
  refine WM_val rfl rfl rfl rfl (R_load rfl sc27 rfl (mmZ) rfl) ?_
  refine WM_val rfl rfl rfl rfl (R_look (ek := ekQ) (ev := evQ) (k := t) (a := ⟨v, 0, hd 0 l⟩) rfl Try.underlying119 Try.underlying27 rfl rfl (mmZ) hM (List.mem_cons_self ..)) ?_
  refine WM_val rfl rfl rfl rfl (R_field rfl Try.underlying129 rfl rfl sc3 rfl rfl) ?_
  refine WM_val rfl rfl rfl rfl (R_move rfl rfl) ?_
  refine WM_val rfl rfl rfl rfl (R_nilCheck rfl rfl) ?_
  refine WM_val rfl rfl rfl rfl (R_fieldAddr rfl fa123_0 rfl) ?_
  refine WM_val rfl rfl rfl rfl (R_fieldAddr rfl fa121_0 rfl) ?_
  refine WM_val rfl rfl rfl rfl (R_load rfl sc27 rfl (mmZ) rfl) ?_
  refine WM_val rfl rfl rfl rfl (R_assign rfl rfl) ?_
  refine WM_val rfl rfl rfl rfl (R_assign rfl rfl) ?_
  refine WM_val rfl rfl rfl rfl (R_assign rfl rfl) ?_
  refine WM_nil ?_
  refine WQ_code ?_
  refine WC_ret ?_
  refine WQ_ret rfl rfl (.cons (.tmp rfl) (.cons (.tmp rfl) (.cons (.tmp rfl) .nil))) rfl (by
      exact ⟨rfl, rfl⟩) (pqZ)
theorem qfront_nil : Spec Try.prog 89 [.pointer none] [] (fun r H' => r = .tuple #[.int .i64 0, .int .u64 0, .int .i64 1] ∧ H' = []) := by
  refine Spec.of (E := [(0, .pointer none)]) Try.func89 rfl (by kernel_rfl) Try.ntmps89 rfl rfl (fun w => ?_)
  refine WC_seq ?_
  refine WC_region ?_
  refine WL_val rfl rfl rfl (R_assign rfl rfl) ?_
  refine WL_val rfl rfl rfl (R_assign rfl rfl) ?_
  refine WL_val rfl rfl rfl (R_assign rfl rfl) ?_
  refine WL_nil ?_
  refine WQ_code ?_
  refine WC_seq ?_
  refine WC_block ?_
  refine WC_seq ?_
  refine WC_region ?_
  refine WL_val rfl rfl rfl (R_move rfl rfl) ?_
  refine WL_do rfl rfl rfl (D_call (qzero_nil) rfl rfl rfl rfl (pqZ)) ?_
  rintro _ _ ⟨_, ⟨rfl, rfl⟩, rfl⟩
  refine WL_val rfl rfl rfl (R_assign rfl rfl) ?_
  refine WL_nil ?_
  refine WQ_code ?_
  refine WC_T rfl ?_
  refine WC_seq ?_
  refine WC_region ?_
  refine WL_val rfl rfl rfl (R_assign rfl rfl) ?_
  refine WL_val rfl rfl rfl (R_assign rfl rfl) ?_
  refine WL_val rfl rfl rfl (R_assign rfl rfl) ?_
  refine WL_nil ?_
  refine WQ_code ?_
  refine WC_ret ?_
  refine WQ_ret rfl rfl (.cons (.tmp rfl) (.cons (.tmp rfl) (.cons (.tmp rfl) .nil))) rfl (by
      exact ⟨rfl, rfl⟩) (pqZ)
theorem out_right {A B : List (Nat × Int)} {x : Nat × Int} {g : Nat} (h : Qk (A ++ x :: B) g) (hA : A ≠ []) : lst 0 A ∉ B.map (·.1) := fun hm => by
  have h1 := h.rem.nodup
  rw [List.map_append, List.nodup_append] at h1
  exact h1.2.2 _ (lst_mem A 0 hA) _ hm rfl
theorem out_left {A B : List (Nat × Int)} {x : Nat × Int} {g : Nat} (h : Qk (A ++ x :: B) g) (hB : B ≠ []) : hd 0 B ∉ A.map (·.1) := fun hm => by
  have h1 := h.rem.nodup
  rw [List.map_append, List.nodup_append] at h1
  obtain ⟨w2, nq, h2⟩ := hd_in 0 0 B hB
  exact h1.2.2 _ hm _ (by rw [← nds_keys 0 B 0]; exact List.mem_map.2 ⟨_, h2, rfl⟩) rfl
theorem qrem_raw (p mb : Nat) (A B : List (Nat × Int)) (t : Nat) (v : Int) (n : Nat) (es : Array MapEntry) (mc : Nat) (hq : Qk (A ++ (t, v) :: B) n) (hM : Mp (.int .u64) ekQ evQ es (nds 0 0 (A ++ (t, v) :: B))) : Spec Try.prog 73 [ptrQ p, .int .u64 (t : Int)] (qR p mb (hd t A) (lst t B) n es mc)
    (fun r H' => ∃ es' mc' f la, r = .tuple #[.int .i64 v, .int .i64 0] ∧ H' = qR p mb f la n es' mc' ∧ f = hd 0 (A ++ B) ∧ la = lst 0 (A ++ B) ∧ Mp (.int .u64) ekQ evQ es' (nds 0 (hd 0 B) A ++ nds (lst 0 A) 0 B)) := by
  have hin : (t, (⟨v, lst 0 A, hd 0 B⟩ : Nd)) ∈ nds 0 0 (A ++ (t, v) :: B) := by rw [nds_append]; exact List.mem_append_right _ (List.mem_cons_self ..)
  have hdel := delL_mid A B t v hq.nodup
  have hqA := hq.left
  have hqB := hq.right.tail
  have hnd := hq.rem.nodup
  refine Spec.of (E := [(0, ptrQ p), (1, .int .u64 (t : Int))]) Try.func73 rfl (by kernel_rfl) Try.ntmps73 rfl rfl (fun w => ?_)
  refine WC_seq ?_
  refine WC_region ?_
  refine WL_val rfl rfl rfl (R_assign rfl rfl) ?_
  refine WL_val rfl rfl rfl (R_assign rfl rfl) ?_
  refine WL_nil ?_
  refine WQ_code ?_
  refine WC_seq ?_
  refine WC_seq ?_
  refine WC_region ?_
  refine WL_val rfl rfl rfl (R_move rfl rfl) ?_
  refine WL_do rfl rfl rfl (D_call (qzero_ok p mb _ _ _ es mc) rfl rfl rfl rfl (pqZ)) ?_
  rintro _ _ ⟨_, ⟨rfl, rfl⟩, rfl⟩
  refine WL_nil ?_
  refine WQ_code ?_
  refine WC_F rfl ?_
  refine WC_skip ?_
  refine WQ_code ?_
  refine WC_seq ?_
  refine WC_region ?_
  refine WL_val rfl rfl rfl (R_move rfl rfl) ?_
  refine WL_val rfl rfl rfl (R_nilCheck rfl rfl) ?_
  refine WL_val rfl rfl rfl (R_fieldAddr rfl fa123_1 rfl) ?_
  refine WL_val rfl rfl rfl (R_load rfl sc119 rfl (mmZ) rfl) ?_
  refine WL_val rfl rfl rfl (R_move rfl rfl) ?_
  refine WL_val rfl rfl rfl (R_lookT (ek := ekQ) (ev := evQ) (k := t) (a := ⟨v, lst 0 A, hd 0 B⟩) rfl Try.underlying119 Try.underlying27 rfl rfl (mmZ) hM (hin)) ?_
  refine WL_val rfl rfl rfl (R_move rfl rfl) ?_
  refine WL_val rfl rfl rfl (R_extract rfl rfl rfl) ?_
  refine WL_val rfl rfl rfl (R_extract rfl rfl rfl) ?_
  refine WL_do rfl rfl rfl (D_alloc rfl zv129) ?_
  rintro _ _ ⟨b1, rfl, rfl⟩
  refine WL_do0 rfl rfl (D_store (vs := [_, _, _]) rfl Try.sizeOf129 rfl rfl rfl rfl rfl (plZ) (by exact Nat.le_of_ble_eq_true rfl)) ?_
  rintro _ _ rfl
  refine WL_val rfl rfl rfl (R_assign rfl rfl) ?_
  refine WL_nil ?_
  refine WQ_code ?_
  refine WC_seq ?_
  refine WC_seq ?_
  refine WC_region ?_
  refine WL_val rfl rfl rfl (R_move rfl rfl) ?_
  refine WL_val rfl rfl rfl (R_not rfl rfl) ?_
  refine WL_nil ?_
  refine WQ_code ?_
  refine WC_F rfl ?_
  refine WC_skip ?_
  refine WQ_code ?_
  refine WC_seq ?_
  refine WC_region ?_
  refine WL_val rfl rfl rfl (R_move rfl rfl) ?_
  refine WL_val rfl rfl rfl (R_nilCheck rfl rfl) ?_
  refine WL_val rfl rfl rfl (R_fieldAddr rfl fa123_1 rfl) ?_
  refine WL_val rfl rfl rfl (R_load rfl sc119 rfl (mmZ) rfl) ?_
  refine WL_val rfl rfl rfl (R_move rfl rfl) ?_
  refine WL_do0 rfl rfl (D_delete (ek := ekQ) (ev := evQ) (k := t) (a := ⟨v, lst 0 A, hd 0 B⟩) rfl Try.underlying119 Try.underlying27 rfl rfl (plZ) hM (hin)) ?_
  rintro _ _ ⟨es1, mc1, hM1, rfl⟩
  rw [hdel] at hM1
  refine WL_nil ?_
  refine WQ_code ?_
  refine WC_seq ?_
  refine WC_seq ?_
  refine WC_region ?_
  refine WL_val rfl rfl rfl (R_fieldAddr rfl fa129_1 rfl) ?_
  refine WL_val rfl rfl rfl (R_load rfl sc27 rfl (mmZ) rfl) ?_
  refine WL_val rfl rfl rfl (R_eql rfl rfl rfl) ?_
  refine WL_nil ?_
  refine WQ_code ?_
  refine WC_dec rfl (fun c1 => ?_) (fun c1 => ?_)
  · have h9 : ((lst 0 A : Nat) : Int) = 0 := c1
    obtain rfl : A = [] := hqA.lst0.1 (by omega)
    refine WC_region ?_
    refine WL_val rfl rfl rfl (R_move rfl rfl) ?_
    refine WL_val rfl rfl rfl (R_fieldAddr rfl fa129_2 rfl) ?_
    refine WL_val rfl rfl rfl (R_load rfl sc27 rfl (mmZ) rfl) ?_
    refine WL_val rfl rfl rfl (R_nilCheck rfl rfl) ?_
    refine WL_val rfl rfl rfl (R_fieldAddr rfl fa123_0 rfl) ?_
    refine WL_val rfl rfl rfl (R_fieldAddr rfl fa121_0 rfl) ?_
    refine WL_do0 rfl rfl (D_store (vs := [_]) rfl Try.sizeOf27 rfl rfl rfl rfl rfl (plZ) (by exact Nat.le_of_ble_eq_true rfl)) ?_
    rintro _ _ rfl
    refine WL_nil ?_
    refine WQ_code ?_
    refine WC_seq ?_
    refine WC_seq ?_
    refine WC_region ?_
    refine WL_val rfl rfl rfl (R_fieldAddr rfl fa129_2 rfl) ?_
    refine WL_val rfl rfl rfl (R_load rfl sc27 rfl (mmZ) rfl) ?_
    refine WL_val rfl rfl rfl (R_eql rfl rfl rfl) ?_
    refine WL_nil ?_
    refine WQ_code ?_
    refine WC_dec rfl (fun c2 => ?_) (fun c2 => ?_)
    · have h8 : ((hd 0 B : Nat) : Int) = 0 := c2
      obtain rfl : B = [] := hqB.hd0.1 (by omega)
      refine WC_region ?_
      refine WL_val rfl rfl rfl (R_move rfl rfl) ?_
      refine WL_val rfl rfl rfl (R_fieldAddr rfl fa129_1 rfl) ?_
      refine WL_val rfl rfl rfl (R_load rfl sc27 rfl (mmZ) rfl) ?_
      refine WL_val rfl rfl rfl (R_nilCheck rfl rfl) ?_
      refine WL_val rfl rfl rfl (R_fieldAddr rfl fa123_0 rfl) ?_
      refine WL_val rfl rfl rfl (R_fieldAddr rfl fa121_1 rfl) ?_
      refine WL_do0 rfl rfl (D_store (vs := [_]) rfl Try.sizeOf27 rfl rfl rfl rfl rfl (plZ) (by exact Nat.le_of_ble_eq_true rfl)) ?_
      rintro _ _ rfl
      refine WL_nil ?_
      refine WQ_code ?_
      refine WC_seq ?_
      refine WC_region ?_
      refine WL_val rfl rfl rfl (R_fieldAddr rfl fa129_0 rfl) ?_
      refine WL_val rfl rfl rfl (R_load rfl sc3 rfl (mmZ) rfl) ?_
      refine WL_val rfl rfl rfl (R_assign rfl rfl) ?_
      refine WL_val rfl rfl rfl (R_assign rfl rfl) ?_
      refine WL_nil ?_
      refine WQ_code ?_
      refine WC_ret ?_
      refine WQ_ret rfl rfl (.cons (.tmp rfl) (.cons (.tmp rfl) .nil)) rfl (by
          exact ⟨_, mc1, hd 0 [], lst 0 [], rfl, rfl, rfl, rfl, hM1⟩) (pqZ)
    · have hB : B ≠ [] := fun e => c2 (by rw [e]; rfl)
      obtain ⟨w2, nq, hin2⟩ := hd_in 0 t B hB
      refine WC_seq ?_
      refine WC_draw _ [(0, true), (1, true), (2, true), (3, true), (4, true), (5, true), (6, true), (7, false), (8, false)] followsMixed rfl rfl (by kernel_rfl) .all ?_
      refine WM_val rfl rfl rfl rfl (R_move rfl rfl) ?_
      refine WM_val rfl rfl rfl rfl (R_nilCheck rfl rfl) ?_
      refine WM_val rfl rfl rfl rfl (R_fieldAddr rfl fa123_1 rfl) ?_
      refine WM_val rfl rfl rfl rfl (R_load rfl sc119 rfl (mmZ) rfl) ?_
      refine WM_val rfl rfl rfl rfl (R_fieldAddr rfl fa129_2 rfl) ?_
      refine WM_val rfl rfl rfl rfl (R_load rfl sc27 rfl (mmZ) rfl) ?_
      refine WM_val rfl rfl rfl rfl (R_look (ek := ekQ) (ev := evQ) (k := hd 0 B) (a := ⟨w2, t, nq⟩) rfl Try.underlying119 Try.underlying27 rfl rfl (mmZ) hM1 (List.mem_append_right _ hin2)) ?_
      refine WM_do rfl rfl rfl rfl (D_alloc rfl zv129) ?_
      rintro _ _ ⟨b2, rfl, rfl⟩
      refine ⟨⟨_, pqZ⟩, ?_⟩
      refine WM_do0 rfl rfl rfl (D_store (vs := [_, _, _]) rfl Try.sizeOf129 rfl rfl rfl rfl rfl (plZ) (by exact Nat.le_of_ble_eq_true rfl)) ?_
      rintro _ _ rfl
      refine ⟨⟨_, pqZ⟩, ?_⟩
      refine WM_nil ?_
      refine WQ_code ?_
      refine WC_seq ?_
      refine WC_region ?_
      refine WL_val rfl rfl rfl (R_fieldAddr rfl fa129_1 rfl) ?_
      refine WL_val rfl rfl rfl (R_load rfl sc27 rfl (mmZ) rfl) ?_
      refine WL_val rfl rfl rfl (R_fieldAddr rfl fa129_1 rfl) ?_
      refine WL_do0 rfl rfl (D_store (vs := [_]) rfl Try.sizeOf27 rfl rfl rfl rfl rfl (plZ) (by exact Nat.le_of_ble_eq_true rfl)) ?_
      rintro _ _ rfl
      refine WL_nil ?_
      refine WQ_code ?_
      refine WC_drawR [⟨some mb, _⟩] [(0, true), (1, true), (2, true), (3, true), (4, true), (5, true), (6, true), (7, false)] followsMixed rfl rfl (by kernel_rfl) (pqZ) ?_
      refine WM_val rfl rfl rfl rfl (R_move rfl rfl) ?_
      refine WM_val rfl rfl rfl rfl (R_nilCheck rfl rfl) ?_
      refine WM_val rfl rfl rfl rfl (R_fieldAddr rfl fa123_1 rfl) ?_
      refine WM_val rfl rfl rfl rfl (R_load rfl sc119 rfl (mmZ) rfl) ?_
      refine WM_val rfl rfl rfl rfl (R_fieldAddr rfl fa129_2 rfl) ?_
      refine WM_val rfl rfl rfl rfl (R_load rfl sc27 rfl (mmZ) rfl) ?_
      refine WM_val rfl rfl rfl rfl (R_loadA (vs := [_, _, _]) rfl ag129 rfl (mmZ) rfl (atZ)) ?_
      refine WM_do0 rfl rfl rfl (D_mapSet (ek := ekQ) (ev := evQ) (k := hd 0 B) (a := ⟨w2, t, nq⟩) (v := (⟨w2, lst 0 [], nq⟩ : Nd)) rfl Try.underlying119 Try.underlying27 rfl rfl rfl (plZ) hM1 (List.mem_append_right _ hin2)) ?_
      rintro _ _ ⟨es3, mc3, hM3, rfl⟩
      refine ⟨⟨_, pqZ⟩, ?_⟩
      rw [setL_append, setL_head t (lst 0 []) 0 B w2 nq hB hqB.nodup hin2, setL_out (by rw [nds_keys]; exact out_left hq hB)] at hM3
      refine WM_nil ?_
      refine WQ_code ?_
      refine WC_seq ?_
      refine WC_region ?_
      refine WL_val rfl rfl rfl (R_fieldAddr rfl fa129_0 rfl) ?_
      refine WL_val rfl rfl rfl (R_load rfl sc3 rfl (mmZ) rfl) ?_
      refine WL_val rfl rfl rfl (R_assign rfl rfl) ?_
      refine WL_val rfl rfl rfl (R_assign rfl rfl) ?_
      refine WL_nil ?_
      refine WQ_code ?_
      refine WC_ret ?_
      refine WQ_ret rfl rfl (.cons (.tmp rfl) (.cons (.tmp rfl) .nil)) rfl (by
          exact ⟨_, mc3, hd 0 B, lst t B, rfl, rfl, rfl, (by rw [lst_append]; exact lst_ne hB), hM3⟩) (pqZ)
  · have hA : A ≠ [] := fun e => c1 (by rw [e]; rfl)
    obtain ⟨w1, bq, hin1⟩ := lst_in t A 0 hA
    refine WC_seq ?_
    refine WC_draw _ [(0, true), (1, true), (2, true), (3, true), (4, true), (5, true), (6, true), (7, false), (8, false)] followsMixed rfl rfl (by kernel_rfl) .all ?_
    refine WM_val rfl rfl rfl rfl (R_move rfl rfl) ?_
    refine WM_val rfl rfl rfl rfl (R_nilCheck rfl rfl) ?_
    refine WM_val rfl rfl rfl rfl (R_fieldAddr rfl fa123_1 rfl) ?_
    refine WM_val rfl rfl rfl rfl (R_load rfl sc119 rfl (mmZ) rfl) ?_
    refine WM_val rfl rfl rfl rfl (R_fieldAddr rfl fa129_1 rfl) ?_
    refine WM_val rfl rfl rfl rfl (R_load rfl sc27 rfl (mmZ) rfl) ?_
    refine WM_val rfl rfl rfl rfl (R_look (ek := ekQ) (ev := evQ) (k := lst 0 A) (a := ⟨w1, bq, t⟩) rfl Try.underlying119 Try.underlying27 rfl rfl (mmZ) hM1 (List.mem_append_left _ hin1)) ?_
    refine WM_do rfl rfl rfl rfl (D_alloc rfl zv129) ?_
    rintro _ _ ⟨b3, rfl, rfl⟩
    refine ⟨⟨_, pqZ⟩, ?_⟩
    refine WM_do0 rfl rfl rfl (D_store (vs := [_, _, _]) rfl Try.sizeOf129 rfl rfl rfl rfl rfl (plZ) (by exact Nat.le_of_ble_eq_true rfl)) ?_
    rintro _ _ rfl
    refine ⟨⟨_, pqZ⟩, ?_⟩
    refine WM_nil ?_
    refine WQ_code ?_
    refine WC_seq ?_
    refine WC_region ?_
    refine WL_val rfl rfl rfl (R_fieldAddr rfl fa129_2 rfl) ?_
    refine WL_val rfl rfl rfl (R_load rfl sc27 rfl (mmZ) rfl) ?_
    refine WL_val rfl rfl rfl (R_fieldAddr rfl fa129_2 rfl) ?_
    refine WL_do0 rfl rfl (D_store (vs := [_]) rfl Try.sizeOf27 rfl rfl rfl rfl rfl (plZ) (by exact Nat.le_of_ble_eq_true rfl)) ?_
    rintro _ _ rfl
    refine WL_nil ?_
    refine WQ_code ?_
    refine WC_drawR [⟨some mb, _⟩] [(0, true), (1, true), (2, true), (3, true), (4, true), (5, true), (6, true), (7, false)] followsMixed rfl rfl (by kernel_rfl) (pqZ) ?_
    refine WM_val rfl rfl rfl rfl (R_move rfl rfl) ?_
    refine WM_val rfl rfl rfl rfl (R_nilCheck rfl rfl) ?_
    refine WM_val rfl rfl rfl rfl (R_fieldAddr rfl fa123_1 rfl) ?_
    refine WM_val rfl rfl rfl rfl (R_load rfl sc119 rfl (mmZ) rfl) ?_
    refine WM_val rfl rfl rfl rfl (R_fieldAddr rfl fa129_1 rfl) ?_
    refine WM_val rfl rfl rfl rfl (R_load rfl sc27 rfl (mmZ) rfl) ?_
    refine WM_val rfl rfl rfl rfl (R_loadA (vs := [_, _, _]) rfl ag129 rfl (mmZ) rfl (atZ)) ?_
    refine WM_do0 rfl rfl rfl (D_mapSet (ek := ekQ) (ev := evQ) (k := lst 0 A) (a := ⟨w1, bq, t⟩) (v := (⟨w1, bq, hd 0 B⟩ : Nd)) rfl Try.underlying119 Try.underlying27 rfl rfl rfl (plZ) hM1 (List.mem_append_left _ hin1)) ?_
    rintro _ _ ⟨es2, mc2, hM2, rfl⟩
    refine ⟨⟨_, pqZ⟩, ?_⟩
    rw [setL_append, setL_last t (hd 0 B) A 0 w1 bq hA hqA.nodup hin1, setL_out (by rw [nds_keys]; exact out_right hq hA)] at hM2
    refine WM_nil ?_
    refine WQ_code ?_
    refine WC_seq ?_
    refine WC_seq ?_
    refine WC_region ?_
    refine WL_val rfl rfl rfl (R_fieldAddr rfl fa129_2 rfl) ?_
    refine WL_val rfl rfl rfl (R_load rfl sc27 rfl (mmZ) rfl) ?_
    refine WL_val rfl rfl rfl (R_eql rfl rfl rfl) ?_
    refine WL_nil ?_
    refine WQ_code ?_
    refine WC_dec rfl (fun c3 => ?_) (fun c3 => ?_)
    · have h8 : ((hd 0 B : Nat) : Int) = 0 := c3
      obtain rfl : B = [] := hqB.hd0.1 (by omega)
      refine WC_region ?_
      refine WL_val rfl rfl rfl (R_move rfl rfl) ?_
      refine WL_val rfl rfl rfl (R_fieldAddr rfl fa129_1 rfl) ?_
      refine WL_val rfl rfl rfl (R_load rfl sc27 rfl (mmZ) rfl) ?_
      refine WL_val rfl rfl rfl (R_nilCheck rfl rfl) ?_
      refine WL_val rfl rfl rfl (R_fieldAddr rfl fa123_0 rfl) ?_
      refine WL_val rfl rfl rfl (R_fieldAddr rfl fa121_1 rfl) ?_
      refine WL_do0 rfl rfl (D_store (vs := [_]) rfl Try.sizeOf27 rfl rfl rfl rfl rfl (plZ) (by exact Nat.le_of_ble_eq_true rfl)) ?_
      rintro _ _ rfl
      refine WL_nil ?_
      refine WQ_code ?_
      refine WC_seq ?_
      refine WC_region ?_
      refine WL_val rfl rfl rfl (R_fieldAddr rfl fa129_0 rfl) ?_
      refine WL_val rfl rfl rfl (R_load rfl sc3 rfl (mmZ) rfl) ?_
      refine WL_val rfl rfl rfl (R_assign rfl rfl) ?_
      refine WL_val rfl rfl rfl (R_assign rfl rfl) ?_
      refine WL_nil ?_
      refine WQ_code ?_
      refine WC_ret ?_
      refine WQ_ret rfl rfl (.cons (.tmp rfl) (.cons (.tmp rfl) .nil)) rfl (by
          exact ⟨_, mc2, hd t A, lst 0 A, rfl, rfl, (by rw [hd_append]; exact hd_ne hA), (by rw [List.append_nil]), hM2⟩) (pqZ)
    · have hB : B ≠ [] := fun e => c3 (by rw [e]; rfl)
      obtain ⟨w2, nq, hin2⟩ := hd_in 0 t B hB
      refine WC_seq ?_
      refine WC_draw _ [(0, true), (1, true), (2, true), (3, true), (4, true), (5, true), (6, true), (7, false), (8, false)] followsMixed rfl rfl (by kernel_rfl) .all ?_
      refine WM_val rfl rfl rfl rfl (R_move rfl rfl) ?_
      refine WM_val rfl rfl rfl rfl (R_nilCheck rfl rfl) ?_
      refine WM_val rfl rfl rfl rfl (R_fieldAddr rfl fa123_1 rfl) ?_
      refine WM_val rfl rfl rfl rfl (R_load rfl sc119 rfl (mmZ) rfl) ?_
      refine WM_val rfl rfl rfl rfl (R_fieldAddr rfl fa129_2 rfl) ?_
      refine WM_val rfl rfl rfl rfl (R_load rfl sc27 rfl (mmZ) rfl) ?_
      refine WM_val rfl rfl rfl rfl (R_look (ek := ekQ) (ev := evQ) (k := hd 0 B) (a := ⟨w2, t, nq⟩) rfl Try.underlying119 Try.underlying27 rfl rfl (mmZ) hM2 (List.mem_append_right _ hin2)) ?_
      refine WM_do rfl rfl rfl rfl (D_alloc rfl zv129) ?_
      rintro _ _ ⟨b4, rfl, rfl⟩
      refine ⟨⟨_, pqZ⟩, ?_⟩
      refine WM_do0 rfl rfl rfl (D_store (vs := [_, _, _]) rfl Try.sizeOf129 rfl rfl rfl rfl rfl (plZ) (by exact Nat.le_of_ble_eq_true rfl)) ?_
      rintro _ _ rfl
      refine ⟨⟨_, pqZ⟩, ?_⟩
      refine WM_nil ?_
      refine WQ_code ?_
      refine WC_seq ?_
      refine WC_region ?_
      refine WL_val rfl rfl rfl (R_fieldAddr rfl fa129_1 rfl) ?_
      refine WL_val rfl rfl rfl (R_load rfl sc27 rfl (mmZ) rfl) ?_
      refine WL_val rfl rfl rfl (R_fieldAddr rfl fa129_1 rfl) ?_
      refine WL_do0 rfl rfl (D_store (vs := [_]) rfl Try.sizeOf27 rfl rfl rfl rfl rfl (plZ) (by exact Nat.le_of_ble_eq_true rfl)) ?_
      rintro _ _ rfl
      refine WL_nil ?_
      refine WQ_code ?_
      refine WC_drawR [⟨some mb, _⟩] [(0, true), (1, true), (2, true), (3, true), (4, true), (5, true), (6, true), (7, false)] followsMixed rfl rfl (by kernel_rfl) (pqZ) ?_
      refine WM_val rfl rfl rfl rfl (R_move rfl rfl) ?_
      refine WM_val rfl rfl rfl rfl (R_nilCheck rfl rfl) ?_
      refine WM_val rfl rfl rfl rfl (R_fieldAddr rfl fa123_1 rfl) ?_
      refine WM_val rfl rfl rfl rfl (R_load rfl sc119 rfl (mmZ) rfl) ?_
      refine WM_val rfl rfl rfl rfl (R_fieldAddr rfl fa129_2 rfl) ?_
      refine WM_val rfl rfl rfl rfl (R_load rfl sc27 rfl (mmZ) rfl) ?_
      refine WM_val rfl rfl rfl rfl (R_loadA (vs := [_, _, _]) rfl ag129 rfl (mmZ) rfl (atZ)) ?_
      refine WM_do0 rfl rfl rfl (D_mapSet (ek := ekQ) (ev := evQ) (k := hd 0 B) (a := ⟨w2, t, nq⟩) (v := (⟨w2, lst 0 A, nq⟩ : Nd)) rfl Try.underlying119 Try.underlying27 rfl rfl rfl (plZ) hM2 (List.mem_append_right _ hin2)) ?_
      rintro _ _ ⟨es3, mc3, hM3, rfl⟩
      refine ⟨⟨_, pqZ⟩, ?_⟩
      rw [setL_append, setL_head t (lst 0 A) 0 B w2 nq hB hqB.nodup hin2, setL_out (by rw [nds_keys]; exact out_left hq hB)] at hM3
      refine WM_nil ?_
      refine WQ_code ?_
      refine WC_seq ?_
      refine WC_region ?_
      refine WL_val rfl rfl rfl (R_fieldAddr rfl fa129_0 rfl) ?_
      refine WL_val rfl rfl rfl (R_load rfl sc3 rfl (mmZ) rfl) ?_
      refine WL_val rfl rfl rfl (R_assign rfl rfl) ?_
      refine WL_val rfl rfl rfl (R_assign rfl rfl) ?_
      refine WL_nil ?_
      refine WQ_code ?_
      refine WC_ret ?_
      refine WQ_ret rfl rfl (.cons (.tmp rfl) (.cons (.tmp rfl) .nil)) rfl (by
          exact ⟨_, mc3, hd t A, lst t B, rfl, rfl, (by rw [hd_append]; exact hd_ne hA), (by rw [lst_append]; exact lst_ne hB), hM3⟩) (pqZ)

end Go.Proofs.Yteofigbgdbpjgaa
