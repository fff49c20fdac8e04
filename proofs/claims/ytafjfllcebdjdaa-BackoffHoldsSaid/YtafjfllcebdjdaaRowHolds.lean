/-
  BackoffHolds answers true at every input and leaves its arguments as they were. No condition is laid on the input.
-/
import Derived.Test.YtafjfllcebdjdaaRowBase
import Derived.Test.YtafjfllcebdjdaaHold
set_option linter.unusedVariables false
set_option maxRecDepth 20000
namespace Go.Proofs.Ytafjfllcebdjdaa

open Go.ChangeShapes Go.WideShapes Go.ChangeAt Go.RowKit Go.Joins Go.Deep

set_option maxRecDepth 100000 in
theorem liftedBackoffHolds (os : Os) (started : os.Started) (H : Type) (enc : TypeId × Value → H) :
    ReturnsInHanded {} Try.checked os 5 .any (Rows.backoffHoldsSpec.pre6 enc Try.prog Try.f5 Rows.backoffHoldsRow.domain false) (Rows.backoffHoldsSpec.post enc Try.prog Try.f5 false true false false) := by
  refine returnsInHanded_of_change (C := Try.checked) rowOwn started (by kernel_rfl) Try.func5
    (ChangeSpec.witness6 (enc := enc) (C := Try.checked) false ⟨#[], #[.agg [.int .u64 0, .int .u64 0, .int .i64 0, .int .i64 0, .int .i64 0, .int .i64 0, .int .u32 0].toArray, .int .i64 0, .int .i64 0, .int .u64 0, .int .u8 0], []⟩ 8 (by kernel_rfl) (by kernel_rfl) (by kernel_rfl) (by kernel_rfl)) ?_
  intro W base args ds gs before hval0 hW hcnd _
  have hval : ∀ (j : Nat) t v, Try.f5.params[j]? = some t → args[j]? = some v → Value.okWide Try.prog W .any base t v := hval0
  have hW' := hW
  obtain ⟨p, q, hA0, hV, rfl, hfz, hnd⟩ := hW
  have hA : DataW.TrodAll enc Try.prog W 0 (fun _ => true) true Try.f5.params.toList args.toList ds p := hA0
  rw [Try.params5] at hA hval
  obtain ⟨v0, vs0, d0, ds0, p0, q0, hargs, rfl, rfl, h0, r0⟩ := trodAll_cons hA
  obtain ⟨v1, vs1, d1, ds1, p1, q1, rfl, rfl, rfl, h1, r1⟩ := trodAll_cons r0
  obtain ⟨v2, vs2, d2, ds2, p2, q2, rfl, rfl, rfl, h2, r2⟩ := trodAll_cons r1
  obtain ⟨v3, vs3, d3, ds3, p3, q3, rfl, rfl, rfl, h3, r3⟩ := trodAll_cons r2
  obtain ⟨v4, vs4, d4, ds4, p4, q4, rfl, rfl, rfl, h4, r4⟩ := trodAll_cons r3
  obtain ⟨rfl, rfl, rfl⟩ := trodAll_nil r4
  obtain rfl : args = #[v0, v1, v2, v3, v4] := by cases args; simp_all
  obtain ⟨cs0, m0, y0, rfl, k0⟩ := open_struct Try.underlying26 (hval 0 26 v0 rfl rfl) h0
  obtain ⟨a0, a1, num, den, tries, jit, a6, rfl, wa0, wa1, _, _, _, _, wa6, _⟩ := decPlan m0 cs0 y0 k0
  obtain ⟨lm, rfl, rfl, rfl, w1⟩ := open_int Try.underlying3 (hval 1 3 v1 rfl rfl) h1
  obtain ⟨pr, rfl, rfl, rfl, w2⟩ := open_int Try.underlying3 (hval 2 3 v2 rfl rfl) h2
  obtain ⟨o9, rfl, rfl, rfl, w3⟩ := open_int Try.underlying23 (hval 3 23 v3 rfl rfl) h3
  obtain ⟨m9, rfl, rfl, rfl, w4⟩ := open_int Try.underlying5 (hval 4 5 v4 rfl rfl) h4
  obtain ⟨base, rfl, hbase⟩ := wf_u64 wa0
  obtain ⟨most, rfl, hmost⟩ := wf_u64 wa1
  obtain ⟨seed, rfl, hseed⟩ := wf_u32 wa6
  obtain ⟨o, rfl, ho⟩ := wf_u64 w3
  obtain ⟨m, rfl, hm9⟩ := wf_u8 w4
  have hcalls : Calls Try.prog 5 #[.agg [.int .u64 (base : Int), .int .u64 (most : Int), .int .i64 num, .int .i64 den, .int .i64 tries, .int .i64 jit, .int .u32 (seed : Int)].toArray, .int .i64 lm, .int .i64 pr, .int .u64 (o : Int), .int .u8 (m : Int)] W fun e W' => e = .returned (.bool true) ∧ Below W.heap.size W W' := by
    by_cases hp : OkP (⟨base, most, num, den, tries, jit, seed⟩ : Plan)
    · by_cases hr : OkR lm pr o
      · by_cases hm : m ≤ 20
        · obtain ⟨q, rfl⟩ : ∃ q : Nat, pr = ((q + 1 : Nat) : Int) := ⟨(pr - 1).toNat, by obtain ⟨h1, h2, h3, h4⟩ := hr; omega⟩
          exact Spec.row ((hold_ok ⟨base, most, num, den, tries, jit, seed⟩ hp hseed lm q o hr m hm).mono fun r H1 hp => ⟨hp.1, fun x hx => by cases hx⟩) (hok_nil W)
        · exact Spec.row ((hold_b3 ⟨base, most, num, den, tries, jit, seed⟩ hp lm pr o m hr (by omega)).mono fun r H1 hp => ⟨hp.1, fun x hx => by cases hx⟩) (hok_nil W)
      · exact Spec.row ((hold_b2 ⟨base, most, num, den, tries, jit, seed⟩ hp lm pr o m hr).mono fun r H1 hp => ⟨hp.1, fun x hx => by cases hx⟩) (hok_nil W)
    · exact Spec.row ((hold_b1 ⟨base, most, num, den, tries, jit, seed⟩ hp lm pr o m).mono fun r H1 hp => ⟨hp.1, fun x hx => by cases hx⟩) (hok_nil W)
  refine hcalls.mono fun e W' ⟨he, hb⟩ => ?_
  subst he
  exact ⟨_, rfl, law_post rowLaid rowMaps rowFull (by rw [Try.params5]; exact of_decide_eq_true (by kernel_rfl)) (by kernel_rfl) Try.underlying4 rfl hW' rfl hb⟩

/-- The given statement. -/
theorem backoffHoldsProved : Rows.BackoffHoldsSaid :=
  OpenClaim.holds_of_wide 5 Try.f5 rfl rfl rfl rfl rfl rfl rfl ⟨rfl, rfl, rfl, rfl, rfl⟩ rfl rfl rfl rfl rfl (by kernel_rfl) Try.func5 (by kernel_rfl)
    (of_decide_eq_true (by kernel_rfl)) (by unfold Func.isWrapper; first | (rw [if_pos (by decide +kernel)]; kernel_rfl) | (rw [if_neg (by decide +kernel)]; exact ⟨rfl, rfl⟩))
    (fun os started H enc _ => liftedBackoffHolds os started H enc)
end Go.Proofs.Ytafjfllcebdjdaa
