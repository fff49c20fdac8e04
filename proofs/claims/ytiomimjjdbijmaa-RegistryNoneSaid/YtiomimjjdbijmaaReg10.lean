/-
  Chapter 17 (registry), part Reg10: contracts of functions that the laws call, each for the heap it names.
-/
import Derived.Test.YtiomimjjdbijmaaRows
import Derived.Test.YtiomimjjdbijmaaZB
import Derived.Test.YtiomimjjdbijmaaSLMapJ
import Derived.Test.YtiomimjjdbijmaaSLScope
import Derived.Test.YtiomimjjdbijmaaTab
import Derived.Test.YtiomimjjdbijmaaReg9
import Derived.Test.YtiomimjjdbijmaaReg3
import Derived.Test.YtiomimjjdbijmaaRegU
set_option linter.unusedVariables false
set_option maxRecDepth 20000
set_option maxHeartbeats 2000000
namespace Go.Proofs.Ytiomimjjdbijmaa


theorem sortf_ok (hs : SortOk) {W : List Bd} (hl : W.length ≤ 128) (bb mb : Nat) (es : Array MapEntry) (c : Nat) (hM : Mk adV evI es c W) (hsr : SrtB W) : Spec Try.prog 40 [.func (.func 46) #[] #[.pointer (some ⟨bb, 0, none⟩)], .func (.func 42) #[] #[]] [⟨some bb, cl [.map (some mb)] 58⟩, ⟨some mb, .map es c⟩] (fun r H' => ∃ (o : Option Nat) (c2 : Nat) (tl : List Value), r = slV o (kys W).length c2 ∧ Own o (kys W).length c2 2 ((kys W).flatMap encAd) tl ∧ H' = ⟨o, cl ((kys W).flatMap encAd ++ tl) 23⟩ :: [⟨some bb, cl [.map (some mb)] 58⟩, ⟨some mb, .map es c⟩]) := by
  refine Spec.of (E := [(0, .func (.func 46) #[] #[.pointer (some ⟨bb, 0, none⟩)]), (1, .func (.func 42) #[] #[])]) Try.func40 rfl (by kernel_rfl) Try.ntmps40 rfl rfl (fun w => ?_)
  refine WC_seq ?_
  refine WC_region ?_
  refine WL_val rfl rfl rfl (R_assign rfl rfl) ?_
  refine WL_nil ?_
  refine WQ_code ?_
  refine WC_seq ?_
  refine WC_region ?_
  refine WL_val rfl rfl rfl (R_move rfl rfl) ?_
  refine WL_do rfl rfl rfl (D_call (coll_ok hl bb mb es c hM) rfl rfl rfl rfl (pqZ)) ?_
  rintro _ _ ⟨_, ⟨xs, o9, c9, tl9, hperm, rfl, own9, rfl⟩, rfl⟩
  refine WL_val rfl rfl rfl (R_assign rfl rfl) ?_
  refine WL_nil ?_
  refine WQ_code ?_
  refine WC_seq ?_
  refine WC_region ?_
  refine WL_val rfl rfl rfl (R_move rfl rfl) ?_
  refine WL_val rfl rfl rfl (R_move rfl rfl) ?_
  refine WL_do rfl rfl rfl (D_call (hs xs (by have h8 := hperm.length_eq; unfold kys at h8; rw [List.length_map] at h8; omega) o9 c9 tl9 own9) rfl rfl rfl rfl (pqZ)) ?_
  rintro _ _ ⟨_, ⟨ys, rfl, hp2, hs2, rfl⟩, rfl⟩
  have hyk : ys = kys W := srt_eq (hp2.trans hperm) hs2 (srt_kys hsr)
  have hxl : xs.length = (kys W).length := hperm.length_eq
  rw [hyk, hxl]
  rw [hxl] at own9
  refine WL_nil ?_
  refine WQ_code ?_
  refine WC_seq ?_
  refine WC_region ?_
  refine WL_val rfl rfl rfl (R_move rfl rfl) ?_
  refine WL_val rfl rfl rfl (R_assign rfl rfl) ?_
  refine WL_nil ?_
  refine WQ_code ?_
  refine WC_ret ?_
  refine WQ_ret rfl rfl (.cons (.tmp rfl) .nil) rfl (by
      exact ⟨o9, c9, tl9, rfl, ⟨by rw [fm_length encAd2], by have h8 := own9.cap; rw [fm_length encAd2] at h8 ⊢; rw [hxl] at h8; exact h8, own9.le, own9.big, fun e => own9.nil e⟩, rfl⟩) (pqZ)
theorem all2_ok (hs : SortOk) {W : List Bd} (hl : W.length ≤ 128) (cb mb : Nat) (es : Array MapEntry) (c : Nat) (hM : Mk adV evI es c W) (hsr : SrtB W) : IterSpec Try.prog 39 [.pointer (some ⟨cb, 0, none⟩)] [⟨some cb, cl [.map (some mb)] 58⟩, ⟨some mb, .map es c⟩] (fun x : Bd => [adV x.1, .int .i64 x.2]) W := by
  intro lp J Jx hY hj h0
  have hkl : (kys W).length = W.length := List.length_map _
  refine Spec.of (E := [(0, yieldV lp), (1, .pointer (some ⟨cb, 0, none⟩))]) Try.func39 rfl (by kernel_rfl) Try.ntmps39 rfl rfl (fun w => ?_)
  refine WC_seq ?_
  refine WC_region ?_
  refine WL_val rfl rfl rfl (R_load rfl sc58 rfl (mmZ) rfl) ?_
  refine WL_do rfl rfl rfl (D_call (keys_ok mb) rfl rfl rfl rfl (pqZ)) ?_
  rintro _ _ ⟨_, ⟨bb, rfl, rfl⟩, rfl⟩
  refine WL_do rfl rfl rfl (D_call (sortf_ok hs hl bb mb es c hM hsr) rfl rfl rfl rfl (pqZ)) ?_
  rintro _ _ ⟨_, ⟨o9, c9, tl9, rfl, own9, rfl⟩, rfl⟩
  rw [hkl] at own9 ⊢
  refine WL_val rfl rfl rfl (R_len rfl Try.underlying74 rfl) ?_
  refine WL_val rfl rfl rfl (R_move rfl rfl) ?_
  refine WL_nil ?_
  refine WQ_code ?_
  refine WC_block ?_
  refine WC_loopH (G := ItW) [4, 9, 10, 11, 12, 13, 14, 15, 16, 17, 18, 19, 20] (fun g => g.k ≤ W.length ∧ J (W.take g.k) g.hj) (fun g => [(9, .int .i64 (g.k : Int))]) (fun g => [⟨o9, cl ((kys W).flatMap encAd ++ tl9) 23⟩, ⟨some bb, cl [.map (some mb)] 58⟩, ⟨some cb, cl [.map (some mb)] 58⟩, ⟨some mb, .map es c⟩] ++ g.hj) (fun g => W.length - g.k) (⟨0, hj⟩) (⟨Nat.zero_le _, h0⟩) leZ (pqZ) ?_
  rintro g ⟨hk, hJ⟩
  obtain ⟨k, hj⟩ := g
  simp only at hk hJ ⊢
  refine WC_seq ?_
  refine WC_region ?_
  refine WL_val rfl rfl rfl (R_lss rfl rfl rfl) ?_
  refine WL_nil ?_
  refine WQ_code ?_
  refine WC_seq ?_
  refine WC_dec rfl (fun c1 => ?_) (fun c1 => ?_)
  · refine WC_skip ?_
    refine WQ_code ?_
    refine WC_seq ?_
    refine WC_block ?_
    refine WC_seq ?_
    refine WC_region ?_
    obtain ⟨x, hx⟩ := getE (T := W) (i := k) (by omega)
    obtain ⟨w9, ho9⟩ := own9.some_of (by omega)
    have hxk : (kys W)[k]? = some x.1 := by unfold kys; rw [List.getElem?_map, hx]; rfl
    refine WL_val rfl rfl rfl (R_idxO ho9 rfl Try.underlying74 Try.sizeOf23 rfl rfl (by omega)) ?_
    refine WL_val rfl rfl rfl (R_loadAO (vs := encAd x.1) ho9 rfl ag23 rfl (mmZ) rfl (fm_at0 encAd2 hxk (j := 0) (vs := encAd x.1) (fun j v h => by rw [Nat.zero_add]; exact h) (Nat.le_refl _))) ?_
    refine WL_do rfl rfl rfl (D_alloc rfl zv23) ?_
    rintro _ _ ⟨b1, rfl, rfl⟩
    refine WL_do0 rfl rfl (D_store (vs := [_, _]) rfl Try.sizeOf23 rfl rfl rfl rfl rfl (plZ) (by exact Nat.le_of_ble_eq_true rfl)) ?_
    rintro _ _ rfl
    refine WL_nil ?_
    refine WQ_code ?_
    refine WC_seq ?_
    refine WC_draw ([_, _, _, _, _]) [(0, true), (1, true), (2, true), (3, true), (4, true), (5, false), (6, true)] followsMixed rfl rfl (by kernel_rfl) pqZ ?_
    refine WM_val rfl rfl rfl rfl (R_move rfl rfl) ?_
    refine WM_val rfl rfl rfl rfl (R_loadA (vs := [_, _]) rfl ag23 rfl (mmZ) rfl (atZ)) ?_
    refine WM_val rfl rfl rfl rfl (R_load rfl sc58 rfl (mmZ) rfl) ?_
    refine WM_val rfl rfl rfl rfl (R_loadA (vs := [_, _]) rfl ag23 rfl (mmZ) rfl (atZ)) ?_
    refine WM_val rfl rfl rfl rfl (R_lookK (k := x.1) (a := x.2) rfl Try.underlying58 addr_key rfl rfl mmZ hM (List.mem_of_getElem? hx)) ?_
    refine WM_do rfl rfl rfl rfl (D_yield (F := [_, _, _, _, _]) (hY (W.take k) x (W.drop (k + 1)) hj (w_dec hx) hJ) rfl rfl rfl rfl (List.Perm.refl _)) ?_
    rintro _ _ ⟨hj2, (⟨rfl, hJ2⟩ | ⟨rfl, hJ2⟩), rfl⟩
    · refine ⟨⟨_, pqZ⟩, ?_⟩
      refine WM_val rfl rfl rfl rfl (R_not rfl rfl) ?_
      refine WM_nil ?_
      refine WQ_code ?_
      refine WC_F rfl ?_
      refine WC_skip ?_
      refine WQ_code ?_
      refine WC_region ?_
      refine WL_val rfl rfl rfl (R_add rfl rfl rfl (by omega)) ?_
      refine WL_val rfl rfl rfl (R_move rfl rfl) ?_
      refine WL_nil ?_
      refine WQ_nextH (gg := ⟨k, hj⟩) (⟨k + 1, hj2⟩) (⟨by (show k + 1 ≤ W.length); omega, by (show J (W.take (k + 1)) _); rw [w_take hx]; exact hJ2⟩) (by (show W.length - (k + 1) < W.length - k); omega) leZ (psZ) rfl (pqZ)
    · refine ⟨⟨_, pqZ⟩, ?_⟩
      refine WM_val rfl rfl rfl rfl (R_not rfl rfl) ?_
      refine WM_nil ?_
      refine WQ_code ?_
      refine WC_T rfl ?_
      refine WC_ret ?_
      refine WQ_ret rfl rfl .nil rfl (by
          first | exact ⟨_, .inr ⟨_, hJ2⟩, rfl⟩ | (rw [show k = W.length from (by omega), List.take_length] at hJ; exact ⟨_, .inl hJ, rfl⟩)) (pqZ)
  · refine WC_exit ?_
    refine WQ_ret rfl rfl .nil rfl (by
        first | exact ⟨_, .inr ⟨_, hJ2⟩, rfl⟩ | (rw [show k = W.length from (by omega), List.take_length] at hJ; exact ⟨_, .inl hJ, rfl⟩)) (pqZ)
theorem all_ok {W : List Bd} {r : Rg} (hr : RgIs W r) : Spec Try.prog 23 [ptrR r.p] (rgH r) (fun x H' => ∃ cb m2, x = .func (.func 39) #[] #[.pointer (some ⟨cb, 0, none⟩)] ∧ H' = [⟨some cb, cl [.map (some m2)] 58⟩, ⟨some m2, .map r.es r.c⟩] ++ rgH r) := by
  refine Spec.of (E := [(0, ptrR r.p)]) Try.func23 rfl (by kernel_rfl) Try.ntmps23 rfl rfl (fun w => ?_)
  refine WC_seq ?_
  refine WC_region ?_
  refine WL_val rfl rfl rfl (R_assign rfl rfl) ?_
  refine WL_nil ?_
  refine WQ_code ?_
  refine WC_seq ?_
  refine WC_seq ?_
  refine WC_region ?_
  refine WL_val rfl rfl rfl (R_move rfl rfl) ?_
  refine WL_do rfl rfl rfl (D_call (none_ok r) rfl rfl rfl rfl (pqZ)) ?_
  rintro _ _ ⟨_, ⟨rfl, rfl⟩, rfl⟩
  refine WL_nil ?_
  refine WQ_code ?_
  refine WC_F rfl ?_
  refine WC_skip ?_
  refine WQ_code ?_
  refine WC_seq ?_
  refine WC_region ?_
  refine WL_val rfl rfl rfl (R_move rfl rfl) ?_
  refine WL_val rfl rfl rfl (R_nilCheck rfl rfl) ?_
  refine WL_val rfl rfl rfl (R_fieldAddr rfl fa60_0 rfl) ?_
  refine WL_val rfl rfl rfl (R_load rfl sc58 rfl (mmZ) rfl) ?_
  refine WL_do rfl rfl rfl (D_call (rmc_ok r) rfl rfl rfl rfl (pqZ)) ?_
  rintro _ _ ⟨_, ⟨m2, rfl, rfl⟩, rfl⟩
  refine WL_do rfl rfl rfl (D_alloc rfl zv58) ?_
  rintro _ _ ⟨b1, rfl, rfl⟩
  refine WL_do0 rfl rfl (D_store (vs := [_]) rfl Try.sizeOf58 rfl rfl rfl rfl rfl (plZ) (by exact Nat.le_of_ble_eq_true rfl)) ?_
  rintro _ _ rfl
  refine WL_nil ?_
  refine WQ_code ?_
  refine WC_seq ?_
  refine WC_region ?_
  refine WL_val rfl rfl rfl (R_makeFunc rfl rfl rfl) ?_
  refine WL_val rfl rfl rfl (R_assign rfl rfl) ?_
  refine WL_nil ?_
  refine WQ_code ?_
  refine WC_ret ?_
  refine WQ_ret rfl rfl (.cons (.tmp rfl) .nil) rfl (by
      exact ⟨b1, m2, rfl, rfl⟩) (pqZ)
theorem all_nil : Spec Try.prog 23 [.pointer none] [] (fun x H' => x = .func (.func 37) #[] #[] ∧ H' = []) := by
  refine Spec.of (E := [(0, .pointer none)]) Try.func23 rfl (by kernel_rfl) Try.ntmps23 rfl rfl (fun w => ?_)
  refine WC_seq ?_
  refine WC_region ?_
  refine WL_val rfl rfl rfl (R_assign rfl rfl) ?_
  refine WL_nil ?_
  refine WQ_code ?_
  refine WC_seq ?_
  refine WC_seq ?_
  refine WC_region ?_
  refine WL_val rfl rfl rfl (R_move rfl rfl) ?_
  refine WL_do rfl rfl rfl (D_call (none_nil) rfl rfl rfl rfl (pqZ)) ?_
  rintro _ _ ⟨_, ⟨rfl, rfl⟩, rfl⟩
  refine WL_nil ?_
  refine WQ_code ?_
  refine WC_T rfl ?_
  refine WC_seq ?_
  refine WC_region ?_
  refine WL_val rfl rfl rfl (R_assign rfl rfl) ?_
  refine WL_nil ?_
  refine WQ_code ?_
  refine WC_ret ?_
  refine WQ_ret rfl rfl (.cons (.tmp rfl) .nil) rfl (by
      exact ⟨rfl, rfl⟩) (pqZ)
theorem all_zero (p : Nat) : Spec Try.prog 23 [ptrR p] [⟨some p, cl [.map none] 60⟩] (fun x H' => x = .func (.func 37) #[] #[] ∧ H' = [⟨some p, cl [.map none] 60⟩]) := by
  refine Spec.of (E := [(0, ptrR p)]) Try.func23 rfl (by kernel_rfl) Try.ntmps23 rfl rfl (fun w => ?_)
  refine WC_seq ?_
  refine WC_region ?_
  refine WL_val rfl rfl rfl (R_assign rfl rfl) ?_
  refine WL_nil ?_
  refine WQ_code ?_
  refine WC_seq ?_
  refine WC_seq ?_
  refine WC_region ?_
  refine WL_val rfl rfl rfl (R_move rfl rfl) ?_
  refine WL_do rfl rfl rfl (D_call (none_zero p) rfl rfl rfl rfl (pqZ)) ?_
  rintro _ _ ⟨_, ⟨rfl, rfl⟩, rfl⟩
  refine WL_nil ?_
  refine WQ_code ?_
  refine WC_T rfl ?_
  refine WC_seq ?_
  refine WC_region ?_
  refine WL_val rfl rfl rfl (R_assign rfl rfl) ?_
  refine WL_nil ?_
  refine WQ_code ?_
  refine WC_ret ?_
  refine WQ_ret rfl rfl (.cons (.tmp rfl) .nil) rfl (by
      exact ⟨rfl, rfl⟩) (pqZ)
theorem all1_ok : IterSpec Try.prog 37 [] [] (fun x : Bd => [adV x.1, .int .i64 x.2]) [] := by
  intro lp J Jx hY hj h0
  refine Spec.of (E := [(0, yieldV lp)]) Try.func37 rfl (by kernel_rfl) Try.ntmps37 rfl rfl (fun w => ?_)
  refine WC_skip ?_
  refine WQ_ret rfl rfl .nil rfl (by
      exact ⟨hj, .inl h0, rfl⟩) (pqZ)

end Go.Proofs.Ytiomimjjdbijmaa
