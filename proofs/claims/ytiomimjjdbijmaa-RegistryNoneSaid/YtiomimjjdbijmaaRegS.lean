/-
  Chapter 17 (registry), part RegS: contracts of functions that the laws call, each for the heap it names.
-/
import Derived.Test.YtiomimjjdbijmaaRegK
set_option linter.unusedVariables false
set_option maxRecDepth 20000
namespace Go.Proofs.Ytiomimjjdbijmaa


structure AsW where
  l : List Ad
  ob : Option Nat
  c : Nat
  tl : List Value
theorem encAd2 (x : Ad) : (encAd x).length = 2 := rfl

end Go.Proofs.Ytiomimjjdbijmaa
