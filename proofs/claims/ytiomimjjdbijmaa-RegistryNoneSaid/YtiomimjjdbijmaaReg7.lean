/-
  Chapter 17 (registry), part Reg7: contracts of functions that the laws call, each for the heap it names.
-/
import Derived.Test.YtiomimjjdbijmaaRows
import Derived.Test.YtiomimjjdbijmaaZB
import Derived.Test.YtiomimjjdbijmaaSLMapJ
import Derived.Test.YtiomimjjdbijmaaSLScope
import Derived.Test.YtiomimjjdbijmaaTab
import Derived.Test.YtiomimjjdbijmaaReg6
set_option linter.unusedVariables false
set_option maxRecDepth 20000
namespace Go.Proofs.Ytiomimjjdbijmaa


theorem qbind_ok {W : List Bd} {o : Option Nat} {c : Nat} {tl : List Value} (own : Own o W.length c 3 (W.flatMap encBd) tl) (hl : W.length ≤ 128) (s : ByteArray) (p v : Int) : Spec Try.prog 10 [slV o W.length c, .agg #[.string s, .int .i64 p], .int .i64 v] [⟨o, cl (W.flatMap encBd ++ tl) 56⟩] (fun x H' => ∃ o2 c2 tl2, x = .tuple #[slV o2 (bndW W (s, p) v).length c2, adV (bndR W (s, p) v), .int .i64 (bndE W (s, p) v)] ∧ Own o2 (bndW W (s, p) v).length c2 3 ((bndW W (s, p) v).flatMap encBd) tl2 ∧ H' = [⟨o2, cl ((bndW W (s, p) v).flatMap encBd ++ tl2) 56⟩]) := by
  cases o with
  | some wo => exact qbind_some own hl s p v
  | none =>
    obtain ⟨h0, rfl, h2, rfl⟩ := own.void'
    have hW : W = [] := List.eq_nil_of_length_eq_zero h0
    subst hW
    exact qbind_none s p v

end Go.Proofs.Ytiomimjjdbijmaa
