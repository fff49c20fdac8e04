/-
  Arrays that are values: built of parts, and read at an index.
-/
import Derived.Test.YtojfdgckfbnciaaSLMap
namespace Go.Proofs.Ytojfdgckfbnciaa
section
variable {X : Ctx} {E : Env} {H : Heap} {o : Oper} {t e : TypeId} {x y : Operand} {sz n : Nat}
theorem R_buildArr {parts : List (Nat × Operand)} {vs : List (Nat × Value)} {zs cs : List Value} (ho : o.op = .build t parts.toArray) (hu : X.P.underlying t = some (.array n e)) (hs : ∀ w, (sizeOf e).run X.P w = .ok sz w) (hz : Zv X.P t zs)
    (hv : evParts E parts = some vs) (hf : fillS sz zs vs = some cs) : Runs X o E H (.agg cs.toArray) :=
  ⟨(by rw [ho]; intro c e; cases e), fun a w ha _ => by
    obtain ⟨z, h1, h2⟩ := hz
    have hp := ha.parts hv
    have hfl := fillS_eq sz vs zs cs hf
    have hpa : (parts.toArray.map fun (i, x) => (i, a.eval x)) = vs.toArray := by rw [← hp]; simp
    simp only [execOp, ho, hpa, Instr.build]
    simp only [Sem.run_bind, h2 w, Result.andThen_ok, run_underlying hu, hs w, h1, hfl, Sem.run_pure]⟩
theorem R_indexArr {k : IntKind} {i : Int} {cs : List Value} {v : Value} (ho : o.op = .index t x y) (hu : X.P.underlying t = some (.array n e)) (hs : Sc X.P e) (hx : Go.Proofs.Ytojfdgckfbnciaa.ev E x = some (.agg cs.toArray)) (hy : Go.Proofs.Ytojfdgckfbnciaa.ev E y = some (.int k i)) (hi : 0 ≤ i ∧ i < n) (hv : cs[i.toNat]? = some v) : Runs X o E H v :=
  ⟨(by rw [ho]; intro c e; cases e), fun a w ha _ => by
    have h : (Instr.index t (.agg cs.toArray) (.int k i)).run X.P w = .ok v w := by
      simp [Instr.index, asIntOf, run_underlying hu, hi.1, hi.2, (hs w).1, (hs w).2, part, hv]
    simp [execOp, ho, ha.eval hx, ha.eval hy, h]⟩
theorem R_indexArrA {k : IntKind} {i : Int} {cs vs : List Value} (ho : o.op = .index t x y) (hu : X.P.underlying t = some (.array n e)) (hs : Ag X.P e sz) (hx : Go.Proofs.Ytojfdgckfbnciaa.ev E x = some (.agg cs.toArray)) (hy : Go.Proofs.Ytojfdgckfbnciaa.ev E y = some (.int k i)) (hi : 0 ≤ i ∧ i < n) (hn : vs.length = sz) (hv : At cs (i.toNat * sz) vs) : Runs X o E H (.agg vs.toArray) :=
  ⟨(by rw [ho]; intro c e; cases e), fun a w ha _ => by
    have hsub : List.take sz (List.drop (i.toNat * sz) cs) = vs := by
      apply List.ext_getElem?
      intro j
      by_cases hj : j < sz
      · rw [List.getElem?_take_of_lt hj, List.getElem?_drop]
        have hlt : j < vs.length := by omega
        rw [hv j vs[j] (by simp [hlt])]
        simp [hlt]
      · rw [List.getElem?_eq_none (by simp; omega), List.getElem?_eq_none (by omega)]
    have h : (Instr.index t (.agg cs.toArray) (.int k i)).run X.P w = .ok (.agg vs.toArray) w := by
      simp [Instr.index, asIntOf, run_underlying hu, hi.1, hi.2, (hs w).1, (hs w).2, part, hsub]
    simp [execOp, ho, ha.eval hx, ha.eval hy, h]⟩
end
end Go.Proofs.Ytojfdgckfbnciaa
