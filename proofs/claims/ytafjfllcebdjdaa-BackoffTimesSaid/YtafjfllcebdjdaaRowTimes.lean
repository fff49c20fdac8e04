/-
  BackoffTimes answers true at every input and leaves its arguments as they were. No condition is laid on the input.
-/
import Derived.Test.YtafjfllcebdjdaaRowBase
import Derived.Test.YtafjfllcebdjdaaLaws
set_option linter.unusedVariables false
set_option maxRecDepth 20000
namespace Go.Proofs.Ytafjfllcebdjdaa

open Go.ChangeShapes Go.WideShapes Go.ChangeAt Go.RowKit Go.Joins Go.Deep

set_option maxRecDepth 100000 in
theorem liftedBackoffTimes (os : Os) (started : os.Started) (H : Type) (enc : TypeId × Value → H) :
    ReturnsInHanded {} Try.checked os 4 .any (Rows.backoffTimesSpec.pre6 enc Try.prog Try.f4 Rows.backoffTimesRow.domain false) (Rows.backoffTimesSpec.post enc Try.prog Try.f4 false true false false) := by
  refine returnsInHanded_of_change (C := Try.checked) rowOwn started (by kernel_rfl) Try.func4
    (ChangeSpec.witness6 (enc := enc) (C := Try.checked) false ⟨#[], #[.agg [.int .u64 0, .int .u64 0, .int .i64 0, .int .i64 0, .int .i64 0, .int .i64 0, .int .u32 0].toArray, .int .u64 0], []⟩ 8 (by kernel_rfl) (by kernel_rfl) (by kernel_rfl) (by kernel_rfl)) ?_
  intro W base args ds gs before hval0 hW hcnd _
  have hval : ∀ (j : Nat) t v, Try.f4.params[j]? = some t → args[j]? = some v → Value.okWide Try.prog W .any base t v := hval0
  have hW' := hW
  obtain ⟨p, q, hA0, hV, rfl, hfz, hnd⟩ := hW
  have hA : DataW.TrodAll enc Try.prog W 0 (fun _ => true) true Try.f4.params.toList args.toList ds p := hA0
  rw [Try.params4] at hA hval
  obtain ⟨v0, vs0, d0, ds0, p0, q0, hargs, rfl, rfl, h0, r0⟩ := trodAll_cons hA
  obtain ⟨v1, vs1, d1, ds1, p1, q1, rfl, rfl, rfl, h1, r1⟩ := trodAll_cons r0
  obtain ⟨rfl, rfl, rfl⟩ := trodAll_nil r1
  obtain rfl : args = #[v0, v1] := by cases args; simp_all
  obtain ⟨cs0, m0, y0, rfl, k0⟩ := open_struct Try.underlying26 (hval 0 26 v0 rfl rfl) h0
  obtain ⟨a0, a1, num, den, tries, jit, a6, rfl, wa0, wa1, _, _, _, _, wa6, _⟩ := decPlan m0 cs0 y0 k0
  obtain ⟨b0, rfl, rfl, rfl, w1⟩ := open_int Try.underlying23 (hval 1 23 v1 rfl rfl) h1
  obtain ⟨base, rfl, hbase⟩ := wf_u64 wa0
  obtain ⟨most, rfl, hmost⟩ := wf_u64 wa1
  obtain ⟨seed, rfl, hseed⟩ := wf_u32 wa6
  obtain ⟨now, rfl, hnow⟩ := wf_u64 w1
  have hcalls : Calls Try.prog 4 #[.agg [.int .u64 (base : Int), .int .u64 (most : Int), .int .i64 num, .int .i64 den, .int .i64 tries, .int .i64 jit, .int .u32 (seed : Int)].toArray, .int .u64 (now : Int)] W fun e W' => e = .returned (.bool true) ∧ Below W.heap.size W W' := by
    by_cases hp : OkP (⟨base, most, num, den, tries, jit, seed⟩ : Plan)
    · exact Spec.row ((ltimes_ok ⟨base, most, num, den, tries, jit, seed⟩ hp hseed now hnow).mono fun r H1 hp => ⟨hp.1, fun x hx => by cases hx⟩) (hok_nil W)
    · exact Spec.row ((ltimes_bad ⟨base, most, num, den, tries, jit, seed⟩ hp now).mono fun r H1 hp => ⟨hp.1, fun x hx => by cases hx⟩) (hok_nil W)
  refine hcalls.mono fun e W' ⟨he, hb⟩ => ?_
  subst he
  exact ⟨_, rfl, law_post rowLaid rowMaps rowFull (by rw [Try.params4]; exact of_decide_eq_true (by kernel_rfl)) (by kernel_rfl) Try.underlying4 rfl hW' rfl hb⟩

/-- The given statement. -/
theorem backoffTimesProved : Rows.BackoffTimesSaid :=
  OpenClaim.holds_of_wide 4 Try.f4 rfl rfl rfl rfl rfl rfl rfl ⟨rfl, rfl, rfl, rfl, rfl⟩ rfl rfl rfl rfl rfl (by kernel_rfl) Try.func4 (by kernel_rfl)
    (of_decide_eq_true (by kernel_rfl)) (by unfold Func.isWrapper; first | (rw [if_pos (by decide +kernel)]; kernel_rfl) | (rw [if_neg (by decide +kernel)]; exact ⟨rfl, rfl⟩))
    (fun os started H enc _ => liftedBackoffTimes os started H enc)
end Go.Proofs.Ytafjfllcebdjdaa
