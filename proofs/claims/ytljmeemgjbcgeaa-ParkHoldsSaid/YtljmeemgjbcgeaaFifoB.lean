/-
  Chapter 09 (park), part FifoB: contracts of functions that the laws call, each for the heap it names.
-/
import Derived.Test.YtljmeemgjbcgeaaRows
import Derived.Test.YtljmeemgjbcgeaaZSLQueue
import Derived.Test.YtljmeemgjbcgeaaTab
import Derived.Test.YtljmeemgjbcgeaaFifo
set_option linter.unusedVariables false
set_option maxRecDepth 20000
set_option maxHeartbeats 1000000
namespace Go.Proofs.Ytljmeemgjbcgeaa


theorem qrem_ok (p mb : Nat) (A B : List (Nat × Int)) (t : Nat) (v : Int) (n : Nat) (es : Array MapEntry) (mc : Nat) (hq : Qk (A ++ (t, v) :: B) n) (hM : Mp (.int .u64) ekQ evQ es (nds 0 0 (A ++ (t, v) :: B))) : Spec Try.prog 60 [ptrQ p, .int .u64 (t : Int)] (qH p mb (A ++ (t, v) :: B) n es mc)
    (fun r H' => ∃ es' mc', r = .tuple #[.int .i64 v, .int .i64 0] ∧ H' = qH p mb (A ++ B) n es' mc' ∧ Mp (.int .u64) ekQ evQ es' (nds 0 0 (A ++ B))) := by
  have h := qrem_raw p mb A B t v n es mc hq hM
  have e1 : hd t A = hd 0 (A ++ (t, v) :: B) := by rw [hd_append]; rfl
  have e2 : lst t B = lst 0 (A ++ (t, v) :: B) := by rw [lst_append]; rfl
  rw [e1, e2] at h
  exact h.mono fun r H' ⟨es', mc', f, la, h1, h2, h3, h4, h5⟩ => by subst h3; subst h4; exact ⟨es', mc', h1, h2, by rw [nds_append]; exact h5⟩
theorem ext_clone : Extern.find Try.f74 = some Extern.MapsClone.clone := by kernel_rfl
theorem ext_clone_next : Extern.findNext Try.f74 = none := by kernel_rfl
theorem ext_clone_name : (Try.f74.name == "runtime.NumGoroutine") = false := by kernel_rfl
theorem mclone_ok (mb : Nat) (es : Array MapEntry) (mc : Nat) : Spec Try.prog 71 [.map (some mb)] [⟨some mb, .map es mc⟩] (fun r H' => ∃ m2, r = .map (some m2) ∧ H' = [⟨some m2, .map es mc⟩, ⟨some mb, .map es mc⟩]) := by
  refine Spec.of (E := [(0, .map (some mb))]) Try.func71 rfl (by kernel_rfl) Try.ntmps71 rfl rfl (fun w => ?_)
  refine WC_seq ?_
  refine WC_region ?_
  refine WL_val rfl rfl rfl (R_assign rfl rfl) ?_
  refine WL_nil ?_
  refine WQ_code ?_
  refine WC_seq ?_
  refine WC_seq ?_
  refine WC_region ?_
  refine WL_val rfl rfl rfl (R_move rfl rfl) ?_
  refine WL_val rfl rfl rfl (R_mapEqNil rfl Try.underlying110 rfl) ?_
  refine WL_set (s := 4) (v := .bool false) rfl (by rfl) ?_
  refine WL_nil ?_
  refine WQ_code ?_
  refine WC_F rfl ?_
  refine WC_skip ?_
  refine WQ_code ?_
  refine WC_seq ?_
  refine WC_region ?_
  refine WL_val rfl rfl rfl (R_move rfl rfl) ?_
  refine WL_val rfl rfl rfl (R_mkIface rfl Try.underlying110 (by intro ms e; cases e) rfl) ?_
  refine WL_do rfl rfl rfl (D_mapsClone Try.func74 ext_clone_name rfl ext_clone_next ext_clone rfl rfl (mmZ)) ?_
  rintro _ _ ⟨m2, rfl, rfl⟩
  refine WL_val rfl rfl rfl (R_assert rfl Try.underlying110 (by intro ms e; cases e) rfl) ?_
  refine WL_val rfl rfl rfl (R_assign rfl rfl) ?_
  refine WL_nil ?_
  refine WQ_code ?_
  refine WC_ret ?_
  refine WQ_ret rfl rfl (.cons (.tmp rfl) .nil) rfl (by
      exact ⟨m2, rfl, rfl⟩) (pqZ)
theorem qcopy_ok (p mb : Nat) (l : List (Nat × Int)) (n : Nat) (es : Array MapEntry) (mc : Nat) : Spec Try.prog 57 [ptrQ p] (qH p mb l n es mc) (fun r H' => ∃ p2 m2, r = ptrQ p2 ∧ H' = qH p2 m2 l n es mc ++ qH p mb l n es mc) := by
  refine Spec.of (E := [(0, ptrQ p)]) Try.func57 rfl (by kernel_rfl) Try.ntmps57 rfl rfl (fun w => ?_)
  refine WC_seq ?_
  refine WC_region ?_
  refine WL_val rfl rfl rfl (R_assign rfl rfl) ?_
  refine WL_nil ?_
  refine WQ_code ?_
  refine WC_seq ?_
  refine WC_seq ?_
  refine WC_region ?_
  refine WL_val rfl rfl rfl (R_move rfl rfl) ?_
  refine WL_do rfl rfl rfl (D_call (qzero_ok p mb _ _ _ es mc) rfl rfl rfl rfl (pqZ)) ?_
  rintro _ _ ⟨_, ⟨rfl, rfl⟩, rfl⟩
  refine WL_nil ?_
  refine WQ_code ?_
  refine WC_F rfl ?_
  refine WC_skip ?_
  refine WQ_code ?_
  refine WC_seq ?_
  refine WC_draw _ [(0, true), (1, true), (2, true), (3, true), (4, true), (5, true), (6, true), (7, true), (8, false), (9, true), (10, false), (11, true)] followsMixed rfl rfl (by kernel_rfl) .all ?_
  refine WM_val rfl rfl rfl rfl (R_move rfl rfl) ?_
  refine WM_val rfl rfl rfl rfl (R_nilCheck rfl rfl) ?_
  refine WM_val rfl rfl rfl rfl (R_fieldAddr rfl fa114_0 rfl) ?_
  refine WM_val rfl rfl rfl rfl (R_loadA (vs := [_, _, _]) rfl ag112 rfl (mmZ) rfl (atZ)) ?_
  refine WM_val rfl rfl rfl rfl (R_move rfl rfl) ?_
  refine WM_val rfl rfl rfl rfl (R_nilCheck rfl rfl) ?_
  refine WM_val rfl rfl rfl rfl (R_fieldAddr rfl fa114_1 rfl) ?_
  refine WM_val rfl rfl rfl rfl (R_load rfl sc110 rfl (mmZ) rfl) ?_
  refine WM_do rfl rfl rfl rfl (D_call (mclone_ok mb es mc) rfl rfl rfl rfl (pqZ)) ?_
  rintro _ _ ⟨_, ⟨m2, rfl, rfl⟩, rfl⟩
  refine ⟨⟨_, pqZ⟩, ?_⟩
  refine WM_val rfl rfl rfl rfl (R_build rfl zv114 pl114 rfl rfl) ?_
  refine WM_do rfl rfl rfl rfl (D_box (cs := [_, _, _, _]) rfl rfl rfl) ?_
  rintro _ _ ⟨b1, rfl, rfl⟩
  refine ⟨⟨_, pqZ⟩, ?_⟩
  refine WM_val rfl rfl rfl rfl (R_assign rfl rfl) ?_
  refine WM_nil ?_
  refine WQ_code ?_
  refine WC_ret ?_
  refine WQ_ret rfl rfl (.cons (.tmp rfl) .nil) rfl (by
      exact ⟨_, m2, rfl, rfl⟩) (pqZ)
theorem qcopy_nil : Spec Try.prog 57 [.pointer none] [] (fun r H' => r = .pointer none ∧ H' = []) := by
  refine Spec.of (E := [(0, .pointer none)]) Try.func57 rfl (by kernel_rfl) Try.ntmps57 rfl rfl (fun w => ?_)
  refine WC_seq ?_
  refine WC_region ?_
  refine WL_val rfl rfl rfl (R_assign rfl rfl) ?_
  refine WL_nil ?_
  refine WQ_code ?_
  refine WC_seq ?_
  refine WC_seq ?_
  refine WC_region ?_
  refine WL_val rfl rfl rfl (R_move rfl rfl) ?_
  refine WL_do rfl rfl rfl (D_call (qzero_nil) rfl rfl rfl rfl (pqZ)) ?_
  rintro _ _ ⟨_, ⟨rfl, rfl⟩, rfl⟩
  refine WL_nil ?_
  refine WQ_code ?_
  refine WC_T rfl ?_
  refine WC_seq ?_
  refine WC_region ?_
  refine WL_val rfl rfl rfl (R_assign rfl rfl) ?_
  refine WL_nil ?_
  refine WQ_code ?_
  refine WC_ret ?_
  refine WQ_ret rfl rfl (.cons (.tmp rfl) .nil) rfl (by
      exact ⟨rfl, rfl⟩) (pqZ)
theorem qall_ok (p mb : Nat) (l : List (Nat × Int)) (n : Nat) (es : Array MapEntry) (mc : Nat) : Spec Try.prog 39 [ptrQ p] (qH p mb l n es mc) (fun r H' => ∃ bc p2 m2, r = .func (.func 62) #[] #[ptrQ bc] ∧ H' = ⟨some bc, cl [ptrQ p2] 76⟩ :: (qH p2 m2 l n es mc ++ qH p mb l n es mc)) := by
  refine Spec.of (E := [(0, ptrQ p)]) Try.func39 rfl (by kernel_rfl) Try.ntmps39 rfl rfl (fun w => ?_)
  refine WC_seq ?_
  refine WC_region ?_
  refine WL_val rfl rfl rfl (R_assign rfl rfl) ?_
  refine WL_nil ?_
  refine WQ_code ?_
  refine WC_seq ?_
  refine WC_region ?_
  refine WL_val rfl rfl rfl (R_move rfl rfl) ?_
  refine WL_do rfl rfl rfl (D_call (qcopy_ok p mb l n es mc) rfl rfl rfl rfl (pqZ)) ?_
  rintro _ _ ⟨_, ⟨p2, m2, rfl, rfl⟩, rfl⟩
  refine WL_do rfl rfl rfl (D_alloc rfl zv76) ?_
  rintro _ _ ⟨b1, rfl, rfl⟩
  refine WL_do0 rfl rfl (D_store (vs := [_]) rfl Try.sizeOf76 rfl rfl rfl rfl rfl (plZ) (by exact Nat.le_of_ble_eq_true rfl)) ?_
  rintro _ _ rfl
  refine WL_nil ?_
  refine WQ_code ?_
  refine WC_seq ?_
  refine WC_region ?_
  refine WL_val rfl rfl rfl (R_makeFunc rfl rfl rfl) ?_
  refine WL_val rfl rfl rfl (R_assign rfl rfl) ?_
  refine WL_nil ?_
  refine WQ_code ?_
  refine WC_ret ?_
  refine WQ_ret rfl rfl (.cons (.tmp rfl) .nil) rfl (by
      exact ⟨_, p2, m2, rfl, rfl⟩) (pqZ)
theorem qall_nil : Spec Try.prog 39 [.pointer none] [] (fun r H' => ∃ bc, r = .func (.func 62) #[] #[ptrQ bc] ∧ H' = [⟨some bc, cl [.pointer none] 76⟩]) := by
  refine Spec.of (E := [(0, .pointer none)]) Try.func39 rfl (by kernel_rfl) Try.ntmps39 rfl rfl (fun w => ?_)
  refine WC_seq ?_
  refine WC_region ?_
  refine WL_val rfl rfl rfl (R_assign rfl rfl) ?_
  refine WL_nil ?_
  refine WQ_code ?_
  refine WC_seq ?_
  refine WC_region ?_
  refine WL_val rfl rfl rfl (R_move rfl rfl) ?_
  refine WL_do rfl rfl rfl (D_call (qcopy_nil) rfl rfl rfl rfl (pqZ)) ?_
  rintro _ _ ⟨_, ⟨rfl, rfl⟩, rfl⟩
  refine WL_do rfl rfl rfl (D_alloc rfl zv76) ?_
  rintro _ _ ⟨b1, rfl, rfl⟩
  refine WL_do0 rfl rfl (D_store (vs := [_]) rfl Try.sizeOf76 rfl rfl rfl rfl rfl (plZ) (by exact Nat.le_of_ble_eq_true rfl)) ?_
  rintro _ _ rfl
  refine WL_nil ?_
  refine WQ_code ?_
  refine WC_seq ?_
  refine WC_region ?_
  refine WL_val rfl rfl rfl (R_makeFunc rfl rfl rfl) ?_
  refine WL_val rfl rfl rfl (R_assign rfl rfl) ?_
  refine WL_nil ?_
  refine WQ_code ?_
  refine WC_ret ?_
  refine WQ_ret rfl rfl (.cons (.tmp rfl) .nil) rfl (by
      exact ⟨_, rfl, rfl⟩) (pqZ)
def encQ (x : Nat × Int) : List Value := [.int .u64 (x.1 : Int), .int .i64 x.2]
theorem qiter_none (bc : Nat) : IterSpec Try.prog 62 [ptrQ bc] [⟨some bc, cl [.pointer none] 76⟩] encQ [] := by
  intro lp J Jx hY hj h0
  refine Spec.of (E := [(0, yieldV lp), (1, ptrQ bc)]) Try.func62 rfl (by kernel_rfl) Try.ntmps62 rfl rfl (fun w => ?_)
  refine WC_seq ?_
  refine WC_seq ?_
  refine WC_region ?_
  refine WL_val rfl rfl rfl (R_load rfl sc76 rfl (mmZ) rfl) ?_
  refine WL_val rfl rfl rfl (R_ptrEqNil rfl Try.underlying76 rfl) ?_
  refine WL_nil ?_
  refine WQ_code ?_
  refine WC_T rfl ?_
  refine WC_ret ?_
  refine WQ_ret rfl rfl .nil rfl (by
      exact ⟨_, .inl h0, rfl⟩) (pqZ)
theorem qiter_ok (bc : Nat) (p mb : Nat) (l : List (Nat × Int)) (n : Nat) (es : Array MapEntry) (mc : Nat) (hq : Qk l n) (hM : Mp (.int .u64) ekQ evQ es (nds 0 0 l)) : IterSpec Try.prog 62 [ptrQ bc] (⟨some bc, cl [ptrQ p] 76⟩ :: qH p mb l n es mc) encQ l := by
  intro lp J Jx hY hj h0
  refine Spec.of (E := [(0, yieldV lp), (1, ptrQ bc)]) Try.func62 rfl (by kernel_rfl) Try.ntmps62 rfl rfl (fun w => ?_)
  refine WC_seq ?_
  refine WC_seq ?_
  refine WC_region ?_
  refine WL_val rfl rfl rfl (R_load rfl sc76 rfl (mmZ) rfl) ?_
  refine WL_val rfl rfl rfl (R_ptrEqNil rfl Try.underlying76 rfl) ?_
  refine WL_nil ?_
  refine WQ_code ?_
  refine WC_F rfl ?_
  refine WC_skip ?_
  refine WQ_code ?_
  refine WC_seq ?_
  refine WC_region ?_
  refine WL_val rfl rfl rfl (R_load rfl sc76 rfl (mmZ) rfl) ?_
  refine WL_val rfl rfl rfl (R_nilCheck rfl rfl) ?_
  refine WL_val rfl rfl rfl (R_fieldAddr rfl fa114_0 rfl) ?_
  refine WL_val rfl rfl rfl (R_fieldAddr rfl fa112_0 rfl) ?_
  refine WL_val rfl rfl rfl (R_load rfl sc22 rfl (mmZ) rfl) ?_
  refine WL_val rfl rfl rfl (R_assign rfl rfl) ?_
  refine WL_nil ?_
  refine WQ_code ?_
  refine WC_block ?_
  refine WC_loopH (G := List (Nat × Int) × List (Nat × Int) × Heap) [3, 11, 12, 13, 14, 15, 16, 17, 18, 19, 20, 21, 22, 23, 24, 25, 26, 27, 28, 29, 30] (fun g => l = g.1 ++ g.2.1 ∧ J g.1 g.2.2) (fun g => [(3, .int .u64 ((hd 0 g.2.1 : Nat) : Int))]) (fun g => ⟨some bc, cl [ptrQ p] 76⟩ :: (qH p mb l n es mc ++ g.2.2)) (fun g => g.2.1.length) (([], l, hj)) (⟨rfl, h0⟩) leZ (pqZ) ?_
  rintro g ⟨hl, hJ⟩
  obtain ⟨pre, r, hj⟩ := g
  simp only at hl hJ ⊢
  refine WC_seq ?_
  refine WC_seq ?_
  refine WC_region ?_
  refine WL_val rfl rfl rfl (R_move rfl rfl) ?_
  refine WL_val rfl rfl rfl (R_neq rfl rfl rfl) ?_
  refine WL_nil ?_
  refine WQ_code ?_
  refine WC_dec rfl (fun c1 => ?_) (fun c1 => ?_)
  · obtain ⟨⟨t, v⟩, r, rfl⟩ : ∃ x r2, r = x :: r2 := by cases r with | nil => exact absurd rfl c1 | cons x r2 => exact ⟨x, r2, rfl⟩
    have hin : (t, (⟨v, lst 0 pre, hd 0 r⟩ : Nd)) ∈ nds 0 0 l := by rw [hl, nds_append]; exact List.mem_append_right _ (List.mem_cons_self ..)
    refine WC_skip ?_
    refine WQ_code ?_
    refine WC_seq ?_
    refine WC_block ?_
    refine WC_seq ?_
    refine WC_region ?_
    refine WL_val rfl rfl rfl (R_move rfl rfl) ?_
    refine WL_val rfl rfl rfl (R_move rfl rfl) ?_
    refine WL_val rfl rfl rfl (R_load rfl sc76 rfl (mmZ) rfl) ?_
    refine WL_val rfl rfl rfl (R_nilCheck rfl rfl) ?_
    refine WL_val rfl rfl rfl (R_fieldAddr rfl fa114_1 rfl) ?_
    refine WL_val rfl rfl rfl (R_load rfl sc110 rfl (mmZ) rfl) ?_
    refine WL_val rfl rfl rfl (R_move rfl rfl) ?_
    refine WL_val rfl rfl rfl (R_look (ek := ekQ) (ev := evQ) (k := t) (a := ⟨v, lst 0 pre, hd 0 r⟩) rfl Try.underlying110 Try.underlying22 rfl rfl (mmZ) hM (hin)) ?_
    refine WL_val rfl rfl rfl (R_field rfl Try.underlying116 rfl rfl sc3 rfl rfl) ?_
    refine WL_do rfl rfl rfl (D_yield (F := [_, _, _]) (hY pre (t, v) r hj hl hJ) rfl rfl rfl rfl (List.Perm.refl _)) ?_
    rintro _ _ ⟨hj2, (⟨rfl, hJ2⟩ | ⟨rfl, hJ2⟩), rfl⟩
    · refine WL_val rfl rfl rfl (R_not rfl rfl) ?_
      refine WL_nil ?_
      refine WQ_code ?_
      refine WC_F rfl ?_
      refine WC_skip ?_
      refine WQ_code ?_
      refine WC_region ?_
      refine WL_val rfl rfl rfl (R_load rfl sc76 rfl (mmZ) rfl) ?_
      refine WL_val rfl rfl rfl (R_nilCheck rfl rfl) ?_
      refine WL_val rfl rfl rfl (R_fieldAddr rfl fa114_1 rfl) ?_
      refine WL_val rfl rfl rfl (R_load rfl sc110 rfl (mmZ) rfl) ?_
      refine WL_val rfl rfl rfl (R_move rfl rfl) ?_
      refine WL_val rfl rfl rfl (R_look (ek := ekQ) (ev := evQ) (k := t) (a := ⟨v, lst 0 pre, hd 0 r⟩) rfl Try.underlying110 Try.underlying22 rfl rfl (mmZ) hM (hin)) ?_
      refine WL_val rfl rfl rfl (R_field rfl Try.underlying116 rfl rfl sc22 rfl rfl) ?_
      refine WL_val rfl rfl rfl (R_assign rfl rfl) ?_
      refine WL_nil ?_
      refine WQ_nextH (gg := (pre, (t, v) :: r, hj)) ((pre ++ [(t, v)], r, hj2)) (⟨by (show l = (pre ++ [(t, v)]) ++ r); rw [hl, List.append_assoc]; rfl, hJ2⟩) (by (show r.length < r.length + 1); omega) leZ (psZ) rfl (pqZ)
    · refine WL_val rfl rfl rfl (R_not rfl rfl) ?_
      refine WL_nil ?_
      refine WQ_code ?_
      refine WC_T rfl ?_
      refine WC_ret ?_
      refine WQ_ret rfl rfl .nil rfl (by
          first | exact ⟨_, .inr ⟨_, hJ2⟩, rfl⟩ | (rw [hr, List.append_nil] at hl; rw [← hl] at hJ; exact ⟨_, .inl hJ, rfl⟩)) (pqZ)
  · have hr : r = [] := by cases r with | nil => rfl | cons x r2 => exact absurd (show ((hd 0 (x :: r2) : Nat) : Int) ≠ 0 from by have h8 := (hq.pos x (by rw [hl]; exact List.mem_append_right _ (List.mem_cons_self ..))).1; obtain ⟨x1, x2⟩ := x; (show ((x1 : Nat) : Int) ≠ 0); dsimp only at h8; omega) c1
    refine WC_exit ?_
    refine WQ_ret rfl rfl .nil rfl (by
        first | exact ⟨_, .inr ⟨_, hJ2⟩, rfl⟩ | (rw [hr, List.append_nil] at hl; rw [← hl] at hJ; exact ⟨_, .inl hJ, rfl⟩)) (pqZ)

end Go.Proofs.Ytljmeemgjbcgeaa
