/-
  Chapter 17 (registry), part RegSrt: contracts of functions that the laws call, each for the heap it names.
-/
import Derived.Test.YtiomimjjdbijmaaRows
import Derived.Test.YtiomimjjdbijmaaZB
import Derived.Test.YtiomimjjdbijmaaSLMapJ
import Derived.Test.YtiomimjjdbijmaaSLScope
import Derived.Test.YtiomimjjdbijmaaTab
import Derived.Test.YtiomimjjdbijmaaAddr
import Derived.Test.YtiomimjjdbijmaaRegS
import Derived.Test.YtiomimjjdbijmaaRegT
import Derived.Test.YtiomimjjdbijmaaSortKL
set_option linter.unusedVariables false
set_option maxRecDepth 20000
set_option maxHeartbeats 2000000
namespace Go.Proofs.Ytiomimjjdbijmaa


open Go.Shelf Go.RowKit Go.Lib Go.Sort
theorem cmpAd_swo : Go.Sort.SWO (ltOf cmpAd) := by
  refine ⟨fun x => ?_, fun x y z h1 h2 => ?_, fun x y z h1 h2 => ?_⟩
  · simp only [ltOf, decide_eq_false_iff_not]; exact adLt_irrefl x
  · simp only [ltOf, decide_eq_true_eq] at *; exact adLt_trans h1 h2
  · simp only [ltOf, decide_eq_false_iff_not] at *
    intro h3
    rcases adLt_tri x y with h | h | h
    · exact h1 h
    · rw [h] at h3; exact h2 h3
    · rcases adLt_tri y z with h4 | h4 | h4
      · exact h2 h4
      · rw [← h4] at h3; exact h1 h3
      · exact adLt_irrefl x (adLt_trans h3 (adLt_trans h4 h))
theorem fr_app {P : Program} {f : FuncId} {args : List Value} {H : Heap} {post : Value → Heap → Prop} (h : Spec P f args H post) (F : Heap) : Spec P f args (H ++ F) (fun v H' => ∃ H1, post v H1 ∧ H' = H1 ++ F) :=
  ⟨h.enters, fun w hw => (h.calls w hw.left).mono fun e w' ⟨v, H', e1, p, r⟩ => ⟨v, H' ++ F, e1, ⟨H', p, rfl⟩, HW.frame (HW.start hw) (.refl _) r⟩⟩
theorem rsort_ok (l : List Ad) (hl : l.length ≤ 1000000) (ob : Option Nat) (c : Nat) (tl : List Value) (own : Own ob l.length c 2 (l.flatMap encAd) tl) : Spec Try.prog 45 [slV ob l.length c, .func (.func 42) #[] #[]] [⟨ob, cl (l.flatMap encAd ++ tl) 23⟩]
    (fun r H' => ∃ l' : List Ad, r = .tuple #[] ∧ l'.Perm l ∧ l'.Pairwise (fun a b => ¬ adLt b a) ∧ H' = [⟨ob, cl (l'.flatMap encAd ++ tl) 23⟩]) := by
  haveI : Inhabited Ad := ⟨(⟨#[]⟩, 0)⟩
  cases ob with
  | none =>
    obtain ⟨h0, rfl, h2, rfl⟩ := own.void'
    have hl0 : l = [] := List.eq_nil_of_length_eq_zero h0
    subst hl0
    refine (fr_app (sort_none lysK 45 rfl (Enters.mk Try.func45 rfl rfl) none 0 (.func (.func 42) #[] #[])) [⟨none, cl [] 23⟩]).mono fun r H' ⟨H1, ⟨e1, e2⟩, e3⟩ => ⟨[], e1, .refl _, .nil, ?_⟩
    subst e2; exact e3
  | some b =>
    refine (sortK_ok (enc := encAd) (k := 2) lysK 45 rfl (fun w => (ag23 w).1) (fun w => (ag23 w).2) encAd2 (fun x v hv => ?_) cmpAd cmpAd_swo 42 [] [] (fun x y => acmp_ok x.1 x.2 y.1 y.2) (Enters.mk Try.func45 rfl rfl) b l.length c 23 l tl rfl (by omega)).mono fun r H' ⟨d', e1, e2, e3, e4⟩ => ⟨d', e1, e2, ?_, e4⟩
    · simp only [encAd, List.mem_cons, List.not_mem_nil, or_false] at hv
      rcases hv with rfl | rfl <;> rfl
    · refine e3.imp fun {a b} h => ?_
      simpa only [ltOf, decide_eq_false_iff_not, adLt] using h

end Go.Proofs.Ytiomimjjdbijmaa
