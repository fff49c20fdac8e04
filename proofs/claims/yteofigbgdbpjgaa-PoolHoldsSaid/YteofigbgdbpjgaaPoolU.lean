/-
  Chapter 46 (pool), part PoolU: contracts of functions that the laws call, each for the heap it names.
-/
import Derived.Test.YteofigbgdbpjgaaRows
import Derived.Test.YteofigbgdbpjgaaZB
import Derived.Test.YteofigbgdbpjgaaSLMapJ
import Derived.Test.YteofigbgdbpjgaaSLScope
import Derived.Test.YteofigbgdbpjgaaTab
import Derived.Test.YteofigbgdbpjgaaPoolV
import Derived.Test.YteofigbgdbpjgaaSortLI
import Derived.Test.YteofigbgdbpjgaaSortLZ
import Derived.Test.YteofigbgdbpjgaaSLSort
import Derived.Test.YteofigbgdbpjgaaSLSortK
set_option linter.unusedVariables false
set_option maxRecDepth 20000
set_option maxHeartbeats 1000000
namespace Go.Proofs.Yteofigbgdbpjgaa


open Go.Shelf Go.RowKit Go.Lib Go.Sort
theorem ivs_map (l : List Int) : ivs l = l.map (fun v => Value.int .i64 v) := by
  unfold ivs
  induction l with
  | nil => rfl
  | cons a r ih => rw [List.flatMap_cons, ih]; rfl
theorem lateC_swo (Q : List Qp) : Go.Sort.SWO (ltOf (lateC Q)) := by
  refine ⟨fun x => ?_, fun x y z h1 h2 => ?_, fun x y z h1 h2 => ?_⟩
  · simp only [ltOf, decide_eq_false_iff_not, lateC, lexI_lt]; omega
  · simp only [ltOf, decide_eq_true_eq, lateC, lexI_lt] at *; omega
  · simp only [ltOf, decide_eq_false_iff_not, lateC, lexI_lt] at *; omega
theorem psort_ok {m : PM} {s : PS} (h : PIs m s) (b2 : Nat) (l : List Int) (hl : l.length ≤ 1000000) (o : Option Nat) (c : Nat) (tl : List Value) (own : Own o l.length c 1 (ivs l) tl) : Spec Try.prog 51 [slV o l.length c, .func (.func 52) #[] #[.pointer (some ⟨b2, 0, none⟩)]] (⟨o, cl (ivs l ++ tl) 3⟩ :: [⟨some b2, cl [ptrP m.p] 23⟩, poP m s, poW m])
    (fun r H' => ∃ l' : List Int, r = .tuple #[] ∧ l'.Perm l ∧ l'.Pairwise (fun a b => ¬ lateC s.Q b a < 0) ∧ H' = ⟨o, cl (ivs l' ++ tl) 3⟩ :: [⟨some b2, cl [ptrP m.p] 23⟩, poP m s, poW m]) := by
  by_cases h0 : l = []
  · subst h0
    have hn := sort_none lysZ 51 rfl (Enters.mk Try.func51 rfl rfl) o c (.func (.func 52) #[] #[.pointer (some ⟨b2, 0, none⟩)])
    exact (hn.fr (⟨o, cl (ivs [] ++ tl) 3⟩ :: [⟨some b2, cl [ptrP m.p] 23⟩, poP m s, poW m])).mono fun r H' ⟨H1, ⟨e1, e2⟩, e3⟩ => ⟨[], e1, .refl _, .nil, by rw [e3, e2]; rfl⟩
  · obtain ⟨b, rfl⟩ := own.some_of (List.length_pos_iff.2 h0)
    have hs := sort_ok (enc := fun v : Int => Value.int .i64 v) lysF 51 rfl (fun _ => rfl) (lateC s.Q) (lateC_swo s.Q) 52 [.pointer (some ⟨b2, 0, none⟩)] [⟨some b2, cl [ptrP m.p] 23⟩, poP m s, poW m] (fun x y => padv2_ok h b2 x y) (Enters.mk Try.func51 rfl rfl) b l.length c 3 l tl rfl (by omega)
    rw [← ivs_map] at hs
    refine hs.mono fun r H' ⟨d', e1, e2, e3, e4⟩ => ⟨d', e1, e2, e3.imp fun {a b} h => by simpa only [ltOf, decide_eq_false_iff_not] using h, by rw [ivs_map]; exact e4⟩

end Go.Proofs.Yteofigbgdbpjgaa
