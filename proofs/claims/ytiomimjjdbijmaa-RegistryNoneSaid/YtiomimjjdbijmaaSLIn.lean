/-
  append(nil, x...) where x came in: a copy.
-/
import Derived.Test.YtiomimjjdbijmaaZB
set_option linter.unusedVariables false
namespace Go.Proofs.Ytiomimjjdbijmaa
section
variable {X : Ctx} {E : Env} {H : Heap} {o : Oper}
theorem D_appendIn {t e : TypeId} {sz bytes m mc : Nat} {zs news : List Value} {oa : Option Addr} {x y : Operand}
    (ho : o.op = .call { callee := .builtin .append, args := #[x, y], argTypes := #[t, t] }) (hs : SI X.P t e sz bytes zs) (hx : ev E x = some (.slice none 0 0)) (hy : ev E y = some (.slice oa m mc))
    (hin : 0 < m → ∃ b k cs e2 fr, oa = some ⟨b, k, none⟩ ∧ (⟨some b, .cells (List.toArray cs) e2 fr⟩ : Ent) ∈ H ∧ At cs k news) (hl : news.length = m * sz) (hroom : m * bytes ≤ 140737488355328) (h63 : m ≤ 9223372036854775807) :
    Does X o E H (fun v H' => ∃ ob' c' tl', v = slV ob' m c' ∧ Own ob' m c' sz news tl' ∧ H' = ⟨ob', cl (news ++ tl') e⟩ :: H) := by
  intro a w ha hw next Q kk
  obtain ⟨g1, i, z, g2, g3, g4, g5, g6, g7, g8⟩ := hs
  refine ⟨about_true, ?_⟩
  rw [semAt_of (by rw [ho]; intro c e; cases e)]
  have hexec : ∀ v w', (Builtin.append_ #[t, t] o.type #[slV none 0 0, .slice oa m mc]).run X.P w = .ok v w' → (execOp a.eval o).run X.P w = .ok (.value v) w' := fun v w' h => by
    have h' : (Builtin.append_ #[t, t] o.type #[.slice none 0 0, .slice oa m mc]).run X.P w = .ok v w' := h
    simp [execOp, ho, resolve, ha.eval hx, ha.eval hy, invoke, builtin, h']
  have hl' : news.length = m * i.size := by rw [g4]; exact hl
  by_cases hm0 : m = 0
  · subst hm0
    have hne : news = [] := List.eq_nil_of_length_eq_zero (by simpa using hl)
    subst hne
    have hr : (Builtin.append_ #[t, t] o.type #[slV none 0 0, .slice oa 0 mc]).run X.P w = .ok (slV none 0 0) w := by
      cases oa <;> simp [Builtin.append_, slV, run_underlying g1, sizeOf, typeInfo, g2, Builtin.lenOf, Builtin.firstCells, loadCells, loadCellsFrom]
    rw [hexec _ _ hr]
    refine kk _ _ _ ⟨none, 0, [], rfl, Own.empty sz, rfl⟩ ?_
    exact hw.addNone e
  · obtain ⟨b2, k2, cs2, e2, fr, rfl, hm, hat⟩ := hin (by omega)
    have hnews : ∀ j v, news[j]? = some v → w.cell? ((⟨b2, k2, none⟩ : Addr).add j) = some v := fun j v hj => by
      rw [add_at, cell_ofG hw hm]; exact hat j v hj
    have hr := run_append_nil (P := X.P) w t o.type e i z g1 g2 g3 ⟨b2, k2, none⟩ m mc news hl' hnews (by omega) (by omega) (by rw [g5]; omega)
    rw [hexec _ _ hr]
    obtain ⟨tl', e1, e2⟩ := grown_own (w := w) (n := 0) (m := m) (c := 0) (e := e) (xs := []) (news := news) (zs := zs) (by simp) hl g7 (by omega) w.heap.size
    simp only [Nat.zero_add, List.nil_append, Array.empty_append] at e1 e2
    rw [g6]
    rw [e1]
    refine kk _ _ _ ⟨some w.heap.size, _, tl', ?_, by simpa using e2, rfl⟩ ((hw.drew).alloc (cl (news ++ tl') e))
    simp [slV]
/-- x[0:] of nil. -/
theorem R_sliceFromNil {t u : TypeId} {x y : Operand} {sz : Nat} {kk : IntKind} (ho : o.op = .slice t x (some y) none none) (hu : X.P.underlying t = some (.slice u)) (hs : ∀ w, (sizeOf u).run X.P w = .ok sz w)
    (hx : ev E x = some (.slice none 0 0)) (hy : ev E y = some (.int kk 0)) : Runs X o E H (.slice none 0 0) :=
  ⟨(by rw [ho]; intro c e; cases e), fun a w ha _ => by
    simp [execOp, ho, ha.eval hx, ha.eval hy, Instr.sliceAt, Instr.slice, Instr.sliceBounds, Instr.sliceBound, asIntOf, run_underlying hu, hs w]⟩
end
end Go.Proofs.Ytiomimjjdbijmaa
