/-
  Arrays that are values: built of parts, and read at an index.
-/
import Derived.Test.YtiokpmgbabpikaaSLMap
namespace Go.Proofs.Ytiokpmgbabpikaa
section
variable {X : Ctx} {E : Env} {H : Heap} {o : Oper} {t e : TypeId} {x y : Operand} {sz n : Nat}
theorem R_buildArr {parts : List (Nat × Operand)} {vs : List (Nat × Value)} {zs cs : List Value} (ho : o.op = .build t parts.toArray) (hu : X.P.underlying t = some (.array n e)) (hs : ∀ w, (sizeOf e).run X.P w = .ok sz w) (hz : Zv X.P t zs)
    (hv : evParts E parts = some vs) (hf : fillS sz zs vs = some cs) : Runs X o E H (.agg cs.toArray) :=
  ⟨(by rw [ho]; intro c e; cases e), fun a w ha _ => by
    obtain ⟨z, h1, h2⟩ := hz
    have hp := ha.parts hv
    have hfl := fillS_eq sz vs zs cs hf
    have hpa : (parts.toArray.map fun (i, x) => (i, a.eval x)) = vs.toArray := by rw [← hp]; simp
    simp only [execOp, ho, hpa, Instr.build]
    simp only [Sem.run_bind, h2 w, Result.andThen_ok, run_underlying hu, hs w, h1, hfl, Sem.run_pure]⟩
theorem R_indexArr {k : IntKind} {i : Int} {cs : List Value} {v : Value} (ho : o.op = .index t x y) (hu : X.P.underlying t = some (.array n e)) (hs : Sc X.P e) (hx : Go.Proofs.Ytiokpmgbabpikaa.ev E x = some (.agg cs.toArray)) (hy : Go.Proofs.Ytiokpmgbabpikaa.ev E y = some (.int k i)) (hi : 0 ≤ i ∧ i < n) (hv : cs[i.toNat]? = some v) : Runs X o E H v :=
  ⟨(by rw [ho]; intro c e; cases e), fun a w ha _ => by
    have h : (Instr.index t (.agg cs.toArray) (.int k i)).run X.P w = .ok v w := by
      simp [Instr.index, asIntOf, run_underlying hu, hi.1, hi.2, (hs w).1, (hs w).2, part, hv]
    simp [execOp, ho, ha.eval hx, ha.eval hy, h]⟩
theorem R_indexArrA {k : IntKind} {i : Int} {cs vs : List Value} (ho : o.op = .index t x y) (hu : X.P.underlying t = some (.array n e)) (hs : Ag X.P e sz) (hx : Go.Proofs.Ytiokpmgbabpikaa.ev E x = some (.agg cs.toArray)) (hy : Go.Proofs.Ytiokpmgbabpikaa.ev E y = some (.int k i)) (hi : 0 ≤ i ∧ i < n) (hn : vs.length = sz) (hv : At cs (i.toNat * sz) vs) : Runs X o E H (.agg vs.toArray) :=
  ⟨(by rw [ho]; intro c e; cases e), fun a w ha _ => by
    have hsub : List.take sz (List.drop (i.toNat * sz) cs) = vs := by
      apply List.ext_getElem?
      intro j
      by_cases hj : j < sz
      · rw [List.getElem?_take_of_lt hj, List.getElem?_drop]
        have hlt : j < vs.length := by omega
        rw [hv j vs[j] (by simp [hlt])]
        simp [hlt]
      · rw [List.getElem?_eq_none (by simp; omega), List.getElem?_eq_none (by omega)]
    have h : (Instr.index t (.agg cs.toArray) (.int k i)).run X.P w = .ok (.agg vs.toArray) w := by
      simp [Instr.index, asIntOf, run_underlying hu, hi.1, hi.2, (hs w).1, (hs w).2, part, hsub]
    simp [execOp, ho, ha.eval hx, ha.eval hy, h]⟩
end

section
variable {X : Ctx} {E : Env} {H : Heap} {o : Oper} {t u : TypeId} {x y : Operand} {sz len : Nat}
/-- The place of an array's element. -/
theorem R_indexAddrA {b k : Nat} {kk : IntKind} {i : Int} (ho : o.op = .indexAddr t x y) (hu : X.P.underlying t = some (.array len u)) (hs : ∀ w, (sizeOf u).run X.P w = .ok sz w)
    (hx : Go.Proofs.Ytiokpmgbabpikaa.ev E x = some (.pointer (some ⟨b, k, none⟩))) (hy : Go.Proofs.Ytiokpmgbabpikaa.ev E y = some (.int kk i)) (hi : 0 ≤ i ∧ i < len) : Runs X o E H (.pointer (some ⟨b, k + i.toNat * sz, none⟩)) :=
  ⟨(by rw [ho]; intro c e; cases e), fun a w ha _ => by
    have h : (Instr.indexAt t (.pointer (some ⟨b, k, none⟩)) (.int kk i)).run X.P w = .ok (.pointer (some ⟨b, k + i.toNat * sz, none⟩)) w := by
      simp [Instr.indexAt, Instr.sureAddr, asIntOf, run_underlying hu, hi.1, hi.2, hs w, add_at]
    simp [execOp, ho, ha.eval hx, ha.eval hy, h]⟩
theorem R_indexAddrAN {b k i : Nat} {kk : IntKind} (ho : o.op = .indexAddr t x y) (hu : X.P.underlying t = some (.array len u)) (hs : ∀ w, (sizeOf u).run X.P w = .ok sz w)
    (hx : Go.Proofs.Ytiokpmgbabpikaa.ev E x = some (.pointer (some ⟨b, k, none⟩))) (hy : Go.Proofs.Ytiokpmgbabpikaa.ev E y = some (.int kk (i : Int))) (hi : i < len) : Runs X o E H (.pointer (some ⟨b, k + i * sz, none⟩)) :=
  R_indexAddrA ho hu hs hx hy ⟨by omega, by omega⟩
end
/-- An array of one-cell elements, told by a function. -/
def arrV (n : Nat) (f : Nat → Value) : List Value := (List.range n).map f
theorem arr_len (n : Nat) (f : Nat → Value) : (arrV n f).length = n := by simp [arrV]
theorem arr_get {n i : Nat} (f : Nat → Value) (h : i < n) : (arrV n f)[0 + i * 1]? = some (f i) := by simp [arrV, h]
theorem rep_arr (n : Nat) (v : Value) : List.replicate n v = arrV n (fun _ => v) := by simp [arrV, List.map_const']
theorem arr_congr {n : Nat} {f g : Nat → Value} (h : ∀ j, j < n → f j = g j) : arrV n f = arrV n g := List.map_congr_left fun j hj => h j (List.mem_range.1 hj)
theorem arr_put {n i : Nat} {f g : Nat → Value} (h : i < n) (v : Value) (hv : g i = v) (hg : ∀ j, j < n → j ≠ i → g j = f j) : putAt (arrV n f) (0 + i * 1) [v] = arrV n g := by
  rw [putAt_cons, putAt_nil]
  apply List.ext_getElem?
  intro j
  rw [Nat.zero_add, Nat.mul_one, List.getElem?_set]
  by_cases e : i = j
  · subst e
    rw [if_pos rfl, if_pos (by rw [arr_len]; exact h)]
    simp [arrV, h, hv]
  · rw [if_neg e]
    by_cases hj : j < n
    · simp [arrV, hj, hg j hj (Ne.symm e)]
    · simp [arrV, hj]
end Go.Proofs.Ytiokpmgbabpikaa
