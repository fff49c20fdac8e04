/-
  DeadlineHolds answers true at every input and leaves its arguments as they were. No condition is laid on the input.
-/
import Derived.Test.YtnkpefonocggfaaRowAct
import Derived.Test.YtnkpefonocggfaaHold
set_option linter.unusedVariables false
set_option maxRecDepth 20000
namespace Go.Proofs.Ytnkpefonocggfaa

open Go.ChangeShapes Go.WideShapes Go.ChangeAt Go.RowKit Go.Joins Go.Deep

set_option maxRecDepth 100000 in
theorem liftedDeadlineHolds (os : Os) (started : os.Started) (H : Type) (enc : TypeId × Value → H) :
    ReturnsInHanded {} Try.checked os 7 .any (Rows.deadlineHoldsSpec.pre6 enc Try.prog Try.f7 Rows.deadlineHoldsRow.domain false) (Rows.deadlineHoldsSpec.post enc Try.prog Try.f7 false true false false) := by
  refine returnsInHanded_of_change (C := Try.checked) rowOwn started (by kernel_rfl) Try.func7
    (ChangeSpec.witness6 (enc := enc) (C := Try.checked) false ⟨#[], #[.int .u64 0, .slice none 0 0, .int .u64 0, .int .u64 0], []⟩ 8 (by kernel_rfl) (by kernel_rfl) (by kernel_rfl) (by kernel_rfl)) ?_
  intro W base args ds gs before hval0 hW hcnd _
  have hval : ∀ (j : Nat) t v, Try.f7.params[j]? = some t → args[j]? = some v → Value.okWide Try.prog W .any base t v := hval0
  have hW' := hW
  obtain ⟨p, q, hA0, hV, rfl, hfz, hnd⟩ := hW
  have hA : DataW.TrodAll enc Try.prog W 0 (fun _ => true) true Try.f7.params.toList args.toList ds p := hA0
  rw [Try.params7] at hA hval
  obtain ⟨v0, vs0, d0, ds0, p0, q0, hargs, rfl, rfl, h0, r0⟩ := trodAll_cons hA
  obtain ⟨v1, vs1, d1, ds1, p1, q1, rfl, rfl, rfl, h1, r1⟩ := trodAll_cons r0
  obtain ⟨v2, vs2, d2, ds2, p2, q2, rfl, rfl, rfl, h2, r2⟩ := trodAll_cons r1
  obtain ⟨v3, vs3, d3, ds3, p3, q3, rfl, rfl, rfl, h3, r3⟩ := trodAll_cons r2
  obtain ⟨rfl, rfl, rfl⟩ := trodAll_nil r3
  obtain rfl : args = #[v0, v1, v2, v3] := by cases args; simp_all
  obtain ⟨u0, rfl, rfl, rfl, w0⟩ := open_int Try.underlying26 (hval 0 26 v0 rfl rfl) h0
  obtain ⟨oa1, ent1, l1, c1, rfl, harg1, hent1, hbig1, hG1⟩ := open_arg (enc' := encA) (G := fun x : Ac => x.tm ≤ 18446744073709551615) (sz := 4) Try.underlying59 (by kernel_rfl) (by omega) (fun m cs y h => decA2 m cs y h) (hval 1 59 v1 rfl rfl) h1
  obtain ⟨u2, rfl, rfl, rfl, w2⟩ := open_int Try.underlying26 (hval 2 26 v2 rfl rfl) h2
  obtain ⟨u3, rfl, rfl, rfl, w3⟩ := open_int Try.underlying26 (hval 3 26 v3 rfl rfl) h3
  obtain ⟨now, rfl, hnow⟩ := wf_u64 w0
  obtain ⟨one, rfl, h1⟩ := wf_u64 w2
  obtain ⟨two, rfl, h2⟩ := wf_u64 w3
  have hcalls : Calls Try.prog 7 #[.int .u64 now, .slice oa1 l1.length c1, .int .u64 one, .int .u64 two] W fun e W' => e = .returned (.bool true) ∧ Below W.heap.size W W' := by
    have hb1 : l1.length ≤ 2 ^ 63 - 1 := hbig1
    by_cases h : 80 < l1.length ∨ now = 18446744073709551615
    · exact Spec.row ((holds_bad now oa1 l1.length c1 one two (by omega) h).mono fun r H1 hp => ⟨hp.1, fun x hx => by cases hx⟩) (hok_nil W)
    exact Spec.row ((holds_ok now (by omega) oa1 ent1 l1 c1 one two h1 h2 harg1 hG1 (by omega)).mono fun r H1 hp => ⟨hp.1, fun x hx => by rw [hp.2]; exact hx⟩) (hok_one hent1)
  refine hcalls.mono fun e W' ⟨he, hb⟩ => ?_
  subst he
  exact ⟨_, rfl, law_post rowLaid rowMaps rowFull (by rw [Try.params7]; exact of_decide_eq_true (by kernel_rfl)) (by kernel_rfl) Try.underlying4 rfl hW' rfl hb⟩

/-- The given statement. -/
theorem deadlineHoldsProved : Rows.DeadlineHoldsSaid :=
  OpenClaim.holds_of_wide 7 Try.f7 rfl rfl rfl rfl rfl rfl rfl ⟨rfl, rfl, rfl, rfl, rfl⟩ rfl rfl rfl rfl rfl (by kernel_rfl) Try.func7 (by kernel_rfl)
    (of_decide_eq_true (by kernel_rfl)) (by unfold Func.isWrapper; first | (rw [if_pos (by decide +kernel)]; kernel_rfl) | (rw [if_neg (by decide +kernel)]; exact ⟨rfl, rfl⟩))
    (fun os started H enc _ => liftedDeadlineHolds os started H enc)
end Go.Proofs.Ytnkpefonocggfaa
