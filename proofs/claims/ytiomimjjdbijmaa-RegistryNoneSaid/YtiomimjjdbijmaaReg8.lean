/-
  Chapter 17 (registry), part Reg8: contracts of functions that the laws call, each for the heap it names.
-/
import Derived.Test.YtiomimjjdbijmaaRows
import Derived.Test.YtiomimjjdbijmaaZB
import Derived.Test.YtiomimjjdbijmaaSLMapJ
import Derived.Test.YtiomimjjdbijmaaSLScope
import Derived.Test.YtiomimjjdbijmaaTab
import Derived.Test.YtiomimjjdbijmaaRegK
set_option linter.unusedVariables false
set_option maxRecDepth 20000
set_option maxHeartbeats 2000000
namespace Go.Proofs.Ytiomimjjdbijmaa


theorem kit_ok {W : List Bd} (bb mb : Nat) (es : Array MapEntry) (c : Nat) (hM : Mk adV evI es c W) : IterAny Try.prog 46 [.pointer (some ⟨bb, 0, none⟩)] [⟨some bb, cl [.map (some mb)] 58⟩, ⟨some mb, .map es c⟩] (fun a : Ad => [adV a]) (fun pre x => x ∈ kys W ∧ x ∉ pre) (fun xs => xs.Perm (kys W)) := by
  intro lp J Jx hY hj h0
  refine Spec.of (E := [(0, yieldV lp), (1, .pointer (some ⟨bb, 0, none⟩))]) Try.func46 rfl (by kernel_rfl) Try.ntmps46 rfl rfl (fun w => ?_)
  refine WC_seq ?_
  refine WC_region ?_
  refine WL_val rfl rfl rfl (R_load rfl sc58 rfl (mmZ) rfl) ?_
  refine WL_do rfl rfl rfl (D_rangeMap rfl Try.underlying58 rfl mmZ) ?_
  rintro _ _ ⟨bi, rfl, rfl⟩
  refine WL_nil ?_
  refine WQ_code ?_
  refine WC_block ?_
  refine WC_loopH (G := KyW) [3, 6, 7, 8, 9, 10, 11, 12, 13] (fun y => Ks W es y.seen y.ys ∧ J y.ys y.hj) (fun y => []) (fun y => [⟨some bi, .mapIter (some mb) c y.seen c⟩, ⟨some bb, cl [.map (some mb)] 58⟩, ⟨some mb, .map es c⟩] ++ y.hj) (fun y => W.length - y.ys.length) (⟨#[], [], hj⟩) (⟨Ks.new W es, h0⟩) leZ (pqZ) ?_
  rintro y ⟨hks, hJ⟩
  refine WC_seq ?_
  refine WC_region ?_
  refine WL_do rfl rfl rfl (D_nextMap rfl rfl plZ mmZ hM.born) ?_
  rintro _ _ (⟨rfl, rfl, hall⟩ | ⟨e, he, hns, rfl, rfl⟩)
  · refine WL_val rfl rfl rfl (R_extract rfl rfl rfl) ?_
    refine WL_set (s := 7) (v := .bool false) rfl (by rfl) ?_
    refine WL_nil ?_
    refine WQ_code ?_
    refine WC_seq ?_
    refine WC_F rfl ?_
    refine WC_exit ?_
    refine WQ_ret rfl rfl .nil rfl (by
        first | exact ⟨_, .inr ⟨_, hJ2⟩, rfl⟩ | exact ⟨_, .inl ⟨_, hks.done hM hall, hJ⟩, rfl⟩) (pqZ)
  · refine WL_val rfl rfl rfl (R_extract rfl rfl rfl) ?_
    refine WL_set (s := 7) (v := .bool true) rfl (by rfl) ?_
    refine WL_nil ?_
    refine WQ_code ?_
    refine WC_seq ?_
    refine WC_T rfl ?_
    refine WC_skip ?_
    refine WQ_code ?_
    refine WC_block ?_
    refine WC_seq ?_
    refine WC_region ?_
    obtain ⟨⟨k, v9⟩, hx, hek, hev⟩ := hM.back he
    dsimp only at hek hev
    obtain ⟨hmay, hks2⟩ := hks.next hM he hns hek
    refine WL_val rfl rfl rfl (R_entryMap rfl rfl mmZ mmZ he hM.bnd) ?_
    rw [hek, hev]
    refine WL_val rfl rfl rfl (R_extract rfl rfl rfl) ?_
    refine WL_do rfl rfl rfl (D_alloc rfl zv23) ?_
    rintro _ _ ⟨b1, rfl, rfl⟩
    refine WL_do0 rfl rfl (D_store (vs := [_, _]) rfl Try.sizeOf23 rfl rfl rfl rfl rfl (plZ) (by exact Nat.le_of_ble_eq_true rfl)) ?_
    rintro _ _ rfl
    refine WL_nil ?_
    refine WQ_code ?_
    refine WC_seq ?_
    refine WC_region ?_
    refine WL_val rfl rfl rfl (R_move rfl rfl) ?_
    refine WL_val rfl rfl rfl (R_loadA (vs := [_, _]) rfl ag23 rfl (mmZ) rfl (atZ)) ?_
    refine WL_do rfl rfl rfl (D_yield (F := [_, _, _, _]) (hY y.ys k y.hj hmay hJ) rfl rfl rfl rfl (List.Perm.refl _)) ?_
    rintro _ _ ⟨hj2, (⟨rfl, hJ2⟩ | ⟨rfl, hJ2⟩), rfl⟩
    · refine WL_val rfl rfl rfl (R_not rfl rfl) ?_
      refine WL_nil ?_
      refine WQ_code ?_
      refine WC_F rfl ?_
      refine WC_skip ?_
      refine WQ_nextH (gg := y) (⟨y.seen.push e.born, y.ys ++ [k], hj2⟩) (⟨hks2, hJ2⟩) (by have := hks2.len; rw [List.length_append, List.length_singleton] at this; dsimp only; rw [List.length_append, List.length_singleton]; omega) leZ (psZ) rfl (pqZ)
    · refine WL_val rfl rfl rfl (R_not rfl rfl) ?_
      refine WL_nil ?_
      refine WQ_code ?_
      refine WC_T rfl ?_
      refine WC_ret ?_
      refine WQ_ret rfl rfl .nil rfl (by
          first | exact ⟨_, .inr ⟨_, hJ2⟩, rfl⟩ | exact ⟨_, .inl ⟨_, hks.done hM hall, hJ⟩, rfl⟩) (pqZ)
theorem keys_ok (mb : Nat) : Spec Try.prog 41 [.map (some mb)] [] (fun r H' => ∃ bb, r = .func (.func 46) #[] #[.pointer (some ⟨bb, 0, none⟩)] ∧ H' = [⟨some bb, cl [.map (some mb)] 58⟩]) := by
  refine Spec.of (E := [(0, .map (some mb))]) Try.func41 rfl (by kernel_rfl) Try.ntmps41 rfl rfl (fun w => ?_)
  refine WC_seq ?_
  refine WC_region ?_
  refine WL_do rfl rfl rfl (D_box (cs := [_]) rfl rfl rfl) ?_
  rintro _ _ ⟨b1, rfl, rfl⟩
  refine WL_val rfl rfl rfl (R_assign rfl rfl) ?_
  refine WL_nil ?_
  refine WQ_code ?_
  refine WC_seq ?_
  refine WC_region ?_
  refine WL_val rfl rfl rfl (R_makeFunc rfl rfl rfl) ?_
  refine WL_val rfl rfl rfl (R_assign rfl rfl) ?_
  refine WL_nil ?_
  refine WQ_code ?_
  refine WC_ret ?_
  refine WQ_ret rfl rfl (.cons (.tmp rfl) .nil) rfl (by
      exact ⟨b1, rfl, rfl⟩) (pqZ)

end Go.Proofs.Ytiomimjjdbijmaa
