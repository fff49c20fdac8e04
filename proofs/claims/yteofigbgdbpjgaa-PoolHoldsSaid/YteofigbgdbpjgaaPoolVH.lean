/-
  Chapter 46 (pool), part PoolVH: contracts of functions that the laws call, each for the heap it names.
-/
import Derived.Test.YteofigbgdbpjgaaRows
import Derived.Test.YteofigbgdbpjgaaZB
import Derived.Test.YteofigbgdbpjgaaSLMapJ
import Derived.Test.YteofigbgdbpjgaaSLScope
import Derived.Test.YteofigbgdbpjgaaTab
import Derived.Test.YteofigbgdbpjgaaPoolV
set_option linter.unusedVariables false
set_option maxRecDepth 20000
namespace Go.Proofs.Yteofigbgdbpjgaa


theorem ptellH_ok {m : PM} {s : PS} (h : PIs m s) (k who c : Int) (hE : s.E.length ≤ 1000000) : Spec Try.prog 32 [ptrP m.p, .int .i64 k, .int .i64 who, .int .i64 c] (poH m s) (fun r H' => ∃ m', r = .tuple #[] ∧ H' = poH m' (s.tell k who c) ∧ m'.p = m.p ∧ PIs m' (s.tell k who c)) :=
  Spec.re ((((ptell_ok h k who c hE).fr (qH m.q m.qm (fq s.Q) s.n m.qes m.qmc ++ [poW m])).perm (List.Perm.cons _ (List.perm_append_comm (l₁ := qH m.q m.qm (fq s.Q) s.n m.qes m.qmc ++ [poW m]) (l₂ := [poV m s])))).mono fun r H' ⟨H1, ⟨ob, ek, ec, epre, etl, h1, h2, h3⟩, h4⟩ =>
    ⟨poH { m with eb := ob, ek := ek, ec := ec, epre := epre, etl := etl } (s.tell k who c), by rw [h4, h2]; exact (List.Perm.cons _ (List.perm_append_comm (l₁ := qH m.q m.qm (fq s.Q) s.n m.qes m.qmc ++ [poW m]) (l₂ := [poV { m with eb := ob, ek := ek, ec := ec, epre := epre, etl := etl } (s.tell k who c)]))).symm, _, h1, rfl, rfl, h.tell h3⟩)
theorem pshut_eq (s : PS) (i : Nat) : s.shut (i : Int) = (s.tell 5 (-1) (i : Int)).lose i := by
  show (s.tell 5 (-1) (i : Int)).lose ((i : Int)).toNat = _
  rw [Int.toNat_natCast]

end Go.Proofs.Yteofigbgdbpjgaa
