/-
  RegistryNone answers true at every input and leaves its arguments as they were. No condition is laid on the input.
-/
import Derived.Test.YtiomimjjdbijmaaRowAd
import Derived.Test.YtiomimjjdbijmaaNone
import Derived.Test.YtiomimjjdbijmaaRegSrt
set_option linter.unusedVariables false
set_option maxRecDepth 20000
namespace Go.Proofs.Ytiomimjjdbijmaa

open Go.ChangeShapes Go.WideShapes Go.ChangeAt Go.RowKit Go.Joins Go.Deep

set_option maxRecDepth 100000 in
theorem liftedRegistryNone (os : Os) (started : os.Started) (H : Type) (enc : TypeId × Value → H) :
    ReturnsInHanded {} Try.checked os 7 .any (Rows.registryNoneSpec.pre6 enc Try.prog Try.f7 Rows.registryNoneRow.domain false) (Rows.registryNoneSpec.post enc Try.prog Try.f7 false true false false) := by
  refine returnsInHanded_of_change (C := Try.checked) rowOwn started (by kernel_rfl) Try.func7
    (ChangeSpec.witness6 (enc := enc) (C := Try.checked) false ⟨#[], #[.agg #[.string ⟨#[]⟩, .int .i64 0], .int .i64 0], []⟩ 8 (by kernel_rfl) (by kernel_rfl) (by kernel_rfl) (by kernel_rfl)) ?_
  intro W base args ds gs before hval0 hW hcnd _
  have hval : ∀ (j : Nat) t v, Try.f7.params[j]? = some t → args[j]? = some v → Value.okWide Try.prog W .any base t v := hval0
  have hW' := hW
  obtain ⟨p, q, hA0, hV, rfl, hfz, hnd⟩ := hW
  have hA : DataW.TrodAll enc Try.prog W 0 (fun _ => true) true Try.f7.params.toList args.toList ds p := hA0
  rw [Try.params7] at hA hval
  obtain ⟨v0, vs0, d0, ds0, p0, q0, hargs, rfl, rfl, h0, r0⟩ := trodAll_cons hA
  obtain ⟨v1, vs1, d1, ds1, p1, q1, rfl, rfl, rfl, h1, r1⟩ := trodAll_cons r0
  obtain ⟨rfl, rfl, rfl⟩ := trodAll_nil r1
  obtain rfl : args = #[v0, v1] := by cases args; simp_all
  obtain ⟨cs0, m0, y0, rfl, k0⟩ := open_struct Try.underlying23 (hval 0 23 v0 rfl rfl) h0
  obtain ⟨s, p, rfl, _, _⟩ := decAd m0 cs0 y0 k0
  obtain ⟨v, rfl, rfl, rfl, w1⟩ := open_int Try.underlying3 (hval 1 3 v1 rfl rfl) h1
  have hcalls : Calls Try.prog 7 #[.agg #[.string s, .int .i64 p], .int .i64 v] W fun e W' => e = .returned (.bool true) ∧ Below W.heap.size W W' := by
    exact Spec.row ((none_row rsort_ok s p v).mono fun r H1 hp => ⟨hp.1, fun x hx => by cases hx⟩) (hok_nil W)
  refine hcalls.mono fun e W' ⟨he, hb⟩ => ?_
  subst he
  exact ⟨_, rfl, law_post rowLaid rowMaps rowFull (by rw [Try.params7]; exact of_decide_eq_true (by kernel_rfl)) (by kernel_rfl) Try.underlying4 rfl hW' rfl hb⟩

/-- The given statement. -/
theorem registryNoneProved : Rows.RegistryNoneSaid :=
  OpenClaim.holds_of_wide 7 Try.f7 rfl rfl rfl rfl rfl rfl rfl ⟨rfl, rfl, rfl, rfl, rfl⟩ rfl rfl rfl rfl rfl (by kernel_rfl) Try.func7 (by kernel_rfl)
    (of_decide_eq_true (by kernel_rfl)) (by unfold Func.isWrapper; first | (rw [if_pos (by decide +kernel)]; kernel_rfl) | (rw [if_neg (by decide +kernel)]; exact ⟨rfl, rfl⟩))
    (fun os started H enc _ => liftedRegistryNone os started H enc)
end Go.Proofs.Ytiomimjjdbijmaa
