/-
  Chapter 17 (registry), part Reg9: contracts of functions that the laws call, each for the heap it names.
-/
import Derived.Test.YtiomimjjdbijmaaRows
import Derived.Test.YtiomimjjdbijmaaZB
import Derived.Test.YtiomimjjdbijmaaSLMapJ
import Derived.Test.YtiomimjjdbijmaaSLScope
import Derived.Test.YtiomimjjdbijmaaTab
import Derived.Test.YtiomimjjdbijmaaReg8
import Derived.Test.YtiomimjjdbijmaaRegS
set_option linter.unusedVariables false
set_option maxRecDepth 20000
set_option maxHeartbeats 2000000
namespace Go.Proofs.Ytiomimjjdbijmaa


theorem apps_ok {W : List Bd} (hl : W.length ≤ 128) (bb mb : Nat) (es : Array MapEntry) (c : Nat) (hM : Mk adV evI es c W) : Spec Try.prog 50 [.slice none 0 0, .func (.func 46) #[] #[.pointer (some ⟨bb, 0, none⟩)]] [⟨some bb, cl [.map (some mb)] 58⟩, ⟨some mb, .map es c⟩] (fun r H' => ∃ (xs : List Ad) (o : Option Nat) (c2 : Nat) (tl : List Value), xs.Perm (kys W) ∧ r = slV o xs.length c2 ∧ Own o xs.length c2 2 (xs.flatMap encAd) tl ∧ H' = ⟨o, cl (xs.flatMap encAd ++ tl) 23⟩ :: [⟨some bb, cl [.map (some mb)] 58⟩, ⟨some mb, .map es c⟩]) := by
  refine Spec.ofM (E := [(0, .slice none 0 0), (1, .func (.func 46) #[] #[.pointer (some ⟨bb, 0, none⟩)])]) Try.func50 rfl (by kernel_rfl) Try.ntmps50 rfl rfl (fun w => ?_)
  refine WC_seq ?_
  refine WC_region ?_
  refine WL_do rfl rfl rfl (D_box (cs := [_]) rfl rfl rfl) ?_
  rintro _ _ ⟨b1, rfl, rfl⟩
  refine WL_val rfl rfl rfl (R_assign rfl rfl) ?_
  refine WL_nil ?_
  refine WQ_code ?_
  refine WC_seq ?_
  refine WC_seq ?_
  refine WC_region ?_
  refine WL_val rfl rfl rfl (R_move rfl rfl) ?_
  refine WL_nil ?_
  refine WQ_code ?_
  refine WC_block ?_
  refine WC_none 23 ?_
  refine WC_rangeA (G := AsW) (GX := Unit) (kit_ok bb mb es c hM) rfl rfl (fun _ => rfl) rfl (fun pre g => g.l = pre ∧ (pre.Nodup ∧ ∀ x ∈ pre, x ∈ kys W) ∧ Own g.ob g.l.length g.c 2 (g.l.flatMap encAd) g.tl) (fun g => [⟨some b1, cl [slV g.ob g.l.length g.c] 74⟩, ⟨g.ob, cl (g.l.flatMap encAd ++ g.tl) 23⟩]) (fun _ _ _ => False) (fun _ => []) (⟨[], none, 0, []⟩) (⟨rfl, ⟨.nil, fun x hx => by cases hx⟩, Own.empty 2⟩) (pqZ) (pqZ) ?_ ?_ ?_
  · intro l pre x gg hx hI w2
    obtain ⟨hgl, ⟨hgn, hgs⟩, hgo⟩ := hI
    have hbl : gg.l.length ≤ 128 := by rw [hgl]; have := pigeonA pre (kys W) hgn hgs; unfold kys at this; rw [List.length_map] at this; omega
    refine WC_region ?_
    refine WL_do rfl rfl rfl (D_alloc rfl zv23) ?_
    rintro _ _ ⟨b2, rfl, rfl⟩
    refine WL_do0 rfl rfl (D_store (vs := [_, _]) rfl Try.sizeOf23 rfl rfl rfl rfl rfl (plZ) (by exact Nat.le_of_ble_eq_true rfl)) ?_
    rintro _ _ rfl
    refine WL_nil ?_
    refine WQ_begin (fun w3 => ?_)
    refine WC_block ?_
    refine WC_region ?_
    refine WL_val rfl rfl rfl (R_load rfl sc74 rfl (mmZ) rfl) ?_
    refine WL_val rfl rfl rfl (R_loadA (vs := [_, _]) rfl ag23 rfl (mmZ) rfl (atZ)) ?_
    refine WL_do rfl rfl rfl (D_buildSlice rfl si74 rfl rfl rfl) ?_
    rintro _ _ ⟨b3, rfl, rfl⟩
    refine WL_do rfl rfl rfl (D_append rfl si74 rfl (hgo) (plZ) rfl (mmZ) ((atZ : At _ 0 [_, _])) (rfl) (rfl) (by omega) (by omega)) ?_
    rintro _ _ ⟨ob4, cap4, tl4, rfl, own4, rfl⟩
    rw [show gg.l.flatMap encAd ++ [Value.string x.1, Value.int .i64 x.2] = (gg.l ++ [x]).flatMap encAd from by simp, show gg.l.length + 1 = (gg.l ++ [x]).length from by simp] at own4 ⊢
    refine WL_do0 rfl rfl (D_store (vs := [_]) rfl Try.sizeOf74 rfl rfl rfl rfl rfl (plZ) (by exact Nat.le_of_ble_eq_true rfl)) ?_
    rintro _ _ rfl
    refine WL_nil ?_
    refine WQ_rnd (⟨gg.l ++ [x], ob4, cap4, tl4⟩) ?_ (pqZ)
    exact (⟨by rw [← hgl], ⟨by rw [List.nodup_append]; exact ⟨hgn, by simp, fun a ha b hb => by rw [List.mem_singleton.1 hb]; rintro rfl; exact hx.2 ha⟩, fun y hy => by rcases List.mem_append.1 hy with hy | hy; exact hgs y hy; rw [List.mem_singleton.1 hy]; exact hx.1⟩, own4⟩)
  · intro dl xs gg hall hI
    obtain ⟨hgl, _, hgo⟩ := hI
    subst hgl
    refine WQ_code ?_
    refine WC_seq ?_
    refine WC_region ?_
    refine WL_val rfl rfl rfl (R_load rfl sc74 rfl (mmZ) rfl) ?_
    refine WL_val rfl rfl rfl (R_assign rfl rfl) ?_
    refine WL_nil ?_
    refine WQ_code ?_
    refine WC_ret ?_
    refine WQ_retM rfl (plZ) rfl (.cons (.tmp rfl) .nil) rfl (by
        exact ⟨gg.l, gg.ob, gg.c, gg.tl, hall, rfl, hgo, rfl⟩) (pqZ)
  · intro dl c pre gx hIx
    exact hIx.elim
theorem coll_ok {W : List Bd} (hl : W.length ≤ 128) (bb mb : Nat) (es : Array MapEntry) (c : Nat) (hM : Mk adV evI es c W) : Spec Try.prog 44 [.func (.func 46) #[] #[.pointer (some ⟨bb, 0, none⟩)]] [⟨some bb, cl [.map (some mb)] 58⟩, ⟨some mb, .map es c⟩] (fun r H' => ∃ (xs : List Ad) (o : Option Nat) (c2 : Nat) (tl : List Value), xs.Perm (kys W) ∧ r = slV o xs.length c2 ∧ Own o xs.length c2 2 (xs.flatMap encAd) tl ∧ H' = ⟨o, cl (xs.flatMap encAd ++ tl) 23⟩ :: [⟨some bb, cl [.map (some mb)] 58⟩, ⟨some mb, .map es c⟩]) := by
  refine Spec.of (E := [(0, .func (.func 46) #[] #[.pointer (some ⟨bb, 0, none⟩)])]) Try.func44 rfl (by kernel_rfl) Try.ntmps44 rfl rfl (fun w => ?_)
  refine WC_seq ?_
  refine WC_region ?_
  refine WL_val rfl rfl rfl (R_assign rfl rfl) ?_
  refine WL_nil ?_
  refine WQ_code ?_
  refine WC_seq ?_
  refine WC_region ?_
  refine WL_val rfl rfl rfl (R_move rfl rfl) ?_
  refine WL_do rfl rfl rfl (D_call (apps_ok hl bb mb es c hM) rfl rfl rfl rfl (pqZ)) ?_
  rintro _ _ ⟨_, ⟨xs, o9, c9, tl9, hperm, rfl, own9, rfl⟩, rfl⟩
  refine WL_val rfl rfl rfl (R_assign rfl rfl) ?_
  refine WL_nil ?_
  refine WQ_code ?_
  refine WC_ret ?_
  refine WQ_ret rfl rfl (.cons (.tmp rfl) .nil) rfl (by
      exact ⟨xs, o9, c9, tl9, hperm, rfl, own9, rfl⟩) (pqZ)

end Go.Proofs.Ytiomimjjdbijmaa
