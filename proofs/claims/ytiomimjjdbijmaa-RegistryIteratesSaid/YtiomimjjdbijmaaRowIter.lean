/-
  RegistryIterates answers true at every input and leaves its arguments as they were. No condition is laid on the input.
-/
import Derived.Test.YtiomimjjdbijmaaRowAct
import Derived.Test.YtiomimjjdbijmaaIter
import Derived.Test.YtiomimjjdbijmaaRegSrt
set_option linter.unusedVariables false
set_option maxRecDepth 20000
namespace Go.Proofs.Ytiomimjjdbijmaa

open Go.ChangeShapes Go.WideShapes Go.ChangeAt Go.RowKit Go.Joins Go.Deep
theorem two_or {W : World} {e1 e2 : Ent} (h1 : e1.ok W) (h2 : e2.ok W) : HOK [e1, e2] W ∨ e1 = e2 := by
  have hall : ∀ x ∈ [e1, e2], x.ok W := fun x hx => by
    simp only [List.mem_cons, List.not_mem_nil, or_false] at hx
    rcases hx with rfl | rfl
    · exact h1
    · exact h2
  obtain ⟨b1, o1⟩ := e1
  obtain ⟨b2, o2⟩ := e2
  cases b1 with
  | none => exact .inl ⟨by cases b2 <;> simp [keys], hall⟩
  | some b1 =>
    cases b2 with
    | none => exact .inl ⟨by simp [keys], hall⟩
    | some b2 =>
      by_cases e : b1 = b2
      · subst e
        have h3 : W.heap[b1]? = some o1 := h1
        have h4 : W.heap[b1]? = some o2 := h2
        rw [h3] at h4
        obtain rfl := Option.some.inj h4
        exact .inr rfl
      · exact .inl ⟨by simp [keys, e], hall⟩

set_option maxRecDepth 100000 in
theorem liftedRegistryIterates (os : Os) (started : os.Started) (H : Type) (enc : TypeId × Value → H) :
    ReturnsInHanded {} Try.checked os 6 .any (Rows.registryIteratesSpec.pre6 enc Try.prog Try.f6 Rows.registryIteratesRow.domain false) (Rows.registryIteratesSpec.post enc Try.prog Try.f6 false true false false) := by
  refine returnsInHanded_of_change (C := Try.checked) rowOwn started (by kernel_rfl) Try.func6
    (ChangeSpec.witness6 (enc := enc) (C := Try.checked) false ⟨#[], #[.slice none 0 0, .slice none 0 0], []⟩ 8 (by kernel_rfl) (by kernel_rfl) (by kernel_rfl) (by kernel_rfl)) ?_
  intro W base args ds gs before hval0 hW hcnd _
  have hval : ∀ (j : Nat) t v, Try.f6.params[j]? = some t → args[j]? = some v → Value.okWide Try.prog W .any base t v := hval0
  have hW' := hW
  obtain ⟨p, q, hA0, hV, rfl, hfz, hnd⟩ := hW
  have hA : DataW.TrodAll enc Try.prog W 0 (fun _ => true) true Try.f6.params.toList args.toList ds p := hA0
  rw [Try.params6] at hA hval
  obtain ⟨v0, vs0, d0, ds0, p0, q0, hargs, rfl, rfl, h0, r0⟩ := trodAll_cons hA
  obtain ⟨v1, vs1, d1, ds1, p1, q1, rfl, rfl, rfl, h1, r1⟩ := trodAll_cons r0
  obtain ⟨rfl, rfl, rfl⟩ := trodAll_nil r1
  obtain rfl : args = #[v0, v1] := by cases args; simp_all
  obtain ⟨oa0, ent0, l0, c0, rfl, harg0, hent0, hbig0, hG0⟩ := open_arg (enc' := encRA) (G := fun _ => True) (sz := 4) Try.underlying37 (by kernel_rfl) (by omega) (fun m cs y h => decRA m cs y h) (hval 0 37 v0 rfl rfl) h0
  obtain ⟨oa1, ent1, l1, c1, rfl, harg1, hent1, hbig1, hG1⟩ := open_arg (enc' := encRA) (G := fun _ => True) (sz := 4) Try.underlying37 (by kernel_rfl) (by omega) (fun m cs y h => decRA m cs y h) (hval 1 37 v1 rfl rfl) h1
  have hcalls : Calls Try.prog 6 #[.slice oa0 l0.length c0, .slice oa1 l1.length c1] W fun e W' => e = .returned (.bool true) ∧ Below W.heap.size W W' := by
    have hb0 : l0.length ≤ 2 ^ 63 - 1 := hbig0
    have hb1 : l1.length ≤ 2 ^ 63 - 1 := hbig1
    rcases two_or hent0 hent1 with hh | hh
    · exact Spec.row ((iter_two rsort_ok l0 oa0 c0 ent0 harg0 (by omega) l1 oa1 c1 ent1 harg1 (by omega)).mono fun r H1 hp => ⟨hp.1, fun x hx => by rw [hp.2]; exact hx⟩) hh
    · subst hh
      exact Spec.row ((iter_one rsort_ok l0 oa0 c0 ent0 harg0 (by omega) l1 oa1 c1 harg1 (by omega)).mono fun r H1 hp => ⟨hp.1, fun x hx => by rw [hp.2]; exact hx⟩) (hok_one hent0)
  refine hcalls.mono fun e W' ⟨he, hb⟩ => ?_
  subst he
  exact ⟨_, rfl, law_post rowLaid rowMaps rowFull (by rw [Try.params6]; exact of_decide_eq_true (by kernel_rfl)) (by kernel_rfl) Try.underlying4 rfl hW' rfl hb⟩

/-- The given statement. -/
theorem registryIteratesProved : Rows.RegistryIteratesSaid :=
  OpenClaim.holds_of_wide 6 Try.f6 rfl rfl rfl rfl rfl rfl rfl ⟨rfl, rfl, rfl, rfl, rfl⟩ rfl rfl rfl rfl rfl (by kernel_rfl) Try.func6 (by kernel_rfl)
    (of_decide_eq_true (by kernel_rfl)) (by unfold Func.isWrapper; first | (rw [if_pos (by decide +kernel)]; kernel_rfl) | (rw [if_neg (by decide +kernel)]; exact ⟨rfl, rfl⟩))
    (fun os started H enc _ => liftedRegistryIterates os started H enc)
end Go.Proofs.Ytiomimjjdbijmaa
