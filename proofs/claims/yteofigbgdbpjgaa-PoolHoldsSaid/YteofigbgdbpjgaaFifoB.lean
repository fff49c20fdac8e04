/-
  Chapter 46 (pool), part FifoB: contracts of functions that the laws call, each for the heap it names.
-/
import Derived.Test.YteofigbgdbpjgaaRows
import Derived.Test.YteofigbgdbpjgaaZB
import Derived.Test.YteofigbgdbpjgaaSLMapJ
import Derived.Test.YteofigbgdbpjgaaSLScope
import Derived.Test.YteofigbgdbpjgaaTab
import Derived.Test.YteofigbgdbpjgaaFifo
set_option linter.unusedVariables false
set_option maxRecDepth 20000
set_option maxHeartbeats 1000000
namespace Go.Proofs.Yteofigbgdbpjgaa


theorem qrem_ok (p mb : Nat) (A B : List (Nat × Int)) (t : Nat) (v : Int) (n : Nat) (es : Array MapEntry) (mc : Nat) (hq : Qk (A ++ (t, v) :: B) n) (hM : Mp (.int .u64) ekQ evQ es (nds 0 0 (A ++ (t, v) :: B))) : Spec Try.prog 73 [ptrQ p, .int .u64 (t : Int)] (qH p mb (A ++ (t, v) :: B) n es mc)
    (fun r H' => ∃ es' mc', r = .tuple #[.int .i64 v, .int .i64 0] ∧ H' = qH p mb (A ++ B) n es' mc' ∧ Mp (.int .u64) ekQ evQ es' (nds 0 0 (A ++ B))) := by
  have h := qrem_raw p mb A B t v n es mc hq hM
  have e1 : hd t A = hd 0 (A ++ (t, v) :: B) := by rw [hd_append]; rfl
  have e2 : lst t B = lst 0 (A ++ (t, v) :: B) := by rw [lst_append]; rfl
  rw [e1, e2] at h
  exact h.mono fun r H' ⟨es', mc', f, la, h1, h2, h3, h4, h5⟩ => by subst h3; subst h4; exact ⟨es', mc', h1, h2, by rw [nds_append]; exact h5⟩
theorem ext_clone : Extern.find Try.f88 = some Extern.MapsClone.clone := by kernel_rfl
theorem ext_clone_next : Extern.findNext Try.f88 = none := by kernel_rfl
theorem ext_clone_name : (Try.f88.name == "runtime.NumGoroutine") = false := by kernel_rfl
theorem mclone_ok (mb : Nat) (es : Array MapEntry) (mc : Nat) : Spec Try.prog 87 [.map (some mb)] [⟨some mb, .map es mc⟩] (fun r H' => ∃ m2, r = .map (some m2) ∧ H' = [⟨some m2, .map es mc⟩, ⟨some mb, .map es mc⟩]) := by
  refine Spec.of (E := [(0, .map (some mb))]) Try.func87 rfl (by kernel_rfl) Try.ntmps87 rfl rfl (fun w => ?_)
  refine WC_seq ?_
  refine WC_region ?_
  refine WL_val rfl rfl rfl (R_assign rfl rfl) ?_
  refine WL_nil ?_
  refine WQ_code ?_
  refine WC_seq ?_
  refine WC_seq ?_
  refine WC_region ?_
  refine WL_val rfl rfl rfl (R_move rfl rfl) ?_
  refine WL_val rfl rfl rfl (R_mapEqNil rfl Try.underlying119 rfl) ?_
  refine WL_set (s := 4) (v := .bool false) rfl (by rfl) ?_
  refine WL_nil ?_
  refine WQ_code ?_
  refine WC_F rfl ?_
  refine WC_skip ?_
  refine WQ_code ?_
  refine WC_seq ?_
  refine WC_region ?_
  refine WL_val rfl rfl rfl (R_move rfl rfl) ?_
  refine WL_val rfl rfl rfl (R_mkIface rfl Try.underlying119 (by intro ms e; cases e) rfl) ?_
  refine WL_do rfl rfl rfl (D_mapsClone Try.func88 ext_clone_name rfl ext_clone_next ext_clone rfl rfl (mmZ)) ?_
  rintro _ _ ⟨m2, rfl, rfl⟩
  refine WL_val rfl rfl rfl (R_assert rfl Try.underlying119 (by intro ms e; cases e) rfl) ?_
  refine WL_val rfl rfl rfl (R_assign rfl rfl) ?_
  refine WL_nil ?_
  refine WQ_code ?_
  refine WC_ret ?_
  refine WQ_ret rfl rfl (.cons (.tmp rfl) .nil) rfl (by
      exact ⟨m2, rfl, rfl⟩) (pqZ)
theorem qcopy_ok (p mb : Nat) (l : List (Nat × Int)) (n : Nat) (es : Array MapEntry) (mc : Nat) : Spec Try.prog 65 [ptrQ p] (qH p mb l n es mc) (fun r H' => ∃ p2 m2, r = ptrQ p2 ∧ H' = qH p2 m2 l n es mc ++ qH p mb l n es mc) := by
  refine Spec.of (E := [(0, ptrQ p)]) Try.func65 rfl (by kernel_rfl) Try.ntmps65 rfl rfl (fun w => ?_)
  refine WC_seq ?_
  refine WC_region ?_
  refine WL_val rfl rfl rfl (R_assign rfl rfl) ?_
  refine WL_nil ?_
  refine WQ_code ?_
  refine WC_seq ?_
  refine WC_seq ?_
  refine WC_region ?_
  refine WL_val rfl rfl rfl (R_move rfl rfl) ?_
  refine WL_do rfl rfl rfl (D_call (qzero_ok p mb _ _ _ es mc) rfl rfl rfl rfl (pqZ)) ?_
  rintro _ _ ⟨_, ⟨rfl, rfl⟩, rfl⟩
  refine WL_nil ?_
  refine WQ_code ?_
  refine WC_F rfl ?_
  refine WC_skip ?_
  refine WQ_code ?_
  refine WC_seq ?_
  refine WC_draw _ [(0, true), (1, true), (2, true), (3, true), (4, true), (5, true), (6, true), (7, true), (8, false), (9, true), (10, false), (11, true)] followsMixed rfl rfl (by kernel_rfl) .all ?_
  refine WM_val rfl rfl rfl rfl (R_move rfl rfl) ?_
  refine WM_val rfl rfl rfl rfl (R_nilCheck rfl rfl) ?_
  refine WM_val rfl rfl rfl rfl (R_fieldAddr rfl fa123_0 rfl) ?_
  refine WM_val rfl rfl rfl rfl (R_loadA (vs := [_, _, _]) rfl ag121 rfl (mmZ) rfl (atZ)) ?_
  refine WM_val rfl rfl rfl rfl (R_move rfl rfl) ?_
  refine WM_val rfl rfl rfl rfl (R_nilCheck rfl rfl) ?_
  refine WM_val rfl rfl rfl rfl (R_fieldAddr rfl fa123_1 rfl) ?_
  refine WM_val rfl rfl rfl rfl (R_load rfl sc119 rfl (mmZ) rfl) ?_
  refine WM_do rfl rfl rfl rfl (D_call (mclone_ok mb es mc) rfl rfl rfl rfl (pqZ)) ?_
  rintro _ _ ⟨_, ⟨m2, rfl, rfl⟩, rfl⟩
  refine ⟨⟨_, pqZ⟩, ?_⟩
  refine WM_val rfl rfl rfl rfl (R_build rfl zv123 pl123 rfl rfl) ?_
  refine WM_do rfl rfl rfl rfl (D_box (cs := [_, _, _, _]) rfl rfl rfl) ?_
  rintro _ _ ⟨b1, rfl, rfl⟩
  refine ⟨⟨_, pqZ⟩, ?_⟩
  refine WM_val rfl rfl rfl rfl (R_assign rfl rfl) ?_
  refine WM_nil ?_
  refine WQ_code ?_
  refine WC_ret ?_
  refine WQ_ret rfl rfl (.cons (.tmp rfl) .nil) rfl (by
      exact ⟨_, m2, rfl, rfl⟩) (pqZ)
theorem qcopy_nil : Spec Try.prog 65 [.pointer none] [] (fun r H' => r = .pointer none ∧ H' = []) := by
  refine Spec.of (E := [(0, .pointer none)]) Try.func65 rfl (by kernel_rfl) Try.ntmps65 rfl rfl (fun w => ?_)
  refine WC_seq ?_
  refine WC_region ?_
  refine WL_val rfl rfl rfl (R_assign rfl rfl) ?_
  refine WL_nil ?_
  refine WQ_code ?_
  refine WC_seq ?_
  refine WC_seq ?_
  refine WC_region ?_
  refine WL_val rfl rfl rfl (R_move rfl rfl) ?_
  refine WL_do rfl rfl rfl (D_call (qzero_nil) rfl rfl rfl rfl (pqZ)) ?_
  rintro _ _ ⟨_, ⟨rfl, rfl⟩, rfl⟩
  refine WL_nil ?_
  refine WQ_code ?_
  refine WC_T rfl ?_
  refine WC_seq ?_
  refine WC_region ?_
  refine WL_val rfl rfl rfl (R_assign rfl rfl) ?_
  refine WL_nil ?_
  refine WQ_code ?_
  refine WC_ret ?_
  refine WQ_ret rfl rfl (.cons (.tmp rfl) .nil) rfl (by
      exact ⟨rfl, rfl⟩) (pqZ)
def encQ (x : Nat × Int) : List Value := [.int .u64 (x.1 : Int), .int .i64 x.2]
end Go.Proofs.Yteofigbgdbpjgaa
