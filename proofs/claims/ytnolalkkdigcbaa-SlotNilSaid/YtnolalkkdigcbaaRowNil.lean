/-
  SlotNil answers true at every input and leaves its arguments as they were. No condition is laid on the input.
-/
import Derived.Test.YtnolalkkdigcbaaRowBase
import Derived.Test.YtnolalkkdigcbaaKnown
set_option linter.unusedVariables false
set_option maxRecDepth 20000
namespace Go.Proofs.Ytnolalkkdigcbaa

open Go.ChangeShapes Go.WideShapes Go.ChangeAt Go.RowKit Go.Joins

set_option maxRecDepth 100000 in
theorem liftedSlotNil (os : Os) (started : os.Started) (H : Type) (enc : TypeId × Value → H) :
    ReturnsInHanded {} Try.checked os 6 .any (Rows.slotNilSpec.pre6 enc Try.prog Try.f6 Rows.slotNilRow.domain false) (Rows.slotNilSpec.post enc Try.prog Try.f6 false true false false) := by
  refine returnsInHanded_of_change (C := Try.checked) rowOwn started (by kernel_rfl) Try.func6
    (ChangeSpec.witness6 (enc := enc) (C := Try.checked) false ⟨#[], #[.agg #[.int .i64 0, .int .i64 0], .int .i64 0], []⟩ 8 (by kernel_rfl) (by kernel_rfl) (by kernel_rfl) (by kernel_rfl)) ?_
  intro W base args ds gs before hval0 hW hcnd _
  have hval : ∀ (j : Nat) t v, Try.f6.params[j]? = some t → args[j]? = some v → Value.okWide Try.prog W .any base t v := hval0
  have hW' := hW
  obtain ⟨p, q, hA0, hV, rfl, hfz, hnd⟩ := hW
  have hA : DataW.TrodAll enc Try.prog W 0 (fun _ => true) true Try.f6.params.toList args.toList ds p := hA0
  rw [Try.params6] at hA hval
  obtain ⟨v0, vs0, d0, ds0, p0, q0, hargs, rfl, rfl, h0, r0⟩ := trodAll_cons hA
  obtain ⟨v1, vs1, d1, ds1, p1, q1, rfl, rfl, rfl, h1, r1⟩ := trodAll_cons r0
  obtain ⟨rfl, rfl, rfl⟩ := trodAll_nil r1
  obtain rfl : args = #[v0, v1] := by cases args; simp_all
  obtain ⟨c00, c01, y00, y01, m0, rfl, rfl, rfl, hy00, hy01⟩ := open_agg2 Try.underlying34 (by kernel_rfl) (show Try.prog.cellsOf 34 = 2 by kernel_rfl) (hval 0 34 v0 rfl rfl) h0
  obtain ⟨a, e00, rfl, w00⟩ := DataW.trod_int Try.underlying3 hy00
  simp at e00
  obtain ⟨b, e01, rfl, w01⟩ := DataW.trod_int Try.underlying3 hy01
  simp at e01
  subst e00 e01
  obtain ⟨n, rfl, rfl, rfl, w1⟩ := open_int Try.underlying3 (hval 1 3 v1 rfl rfl) h1
  have hcalls : Calls Try.prog 6 #[fdV a b, .int .i64 n] W fun e W' => e = .returned (.bool true) ∧ Below W.heap.size W W' := by
    exact Spec.row ((nil_ok a b n).mono fun r H1 hp => ⟨hp.1, fun x hx => by cases hx⟩) ⟨by simp [keys], fun x hx => by cases hx⟩
  refine hcalls.mono fun e W' ⟨he, hb⟩ => ?_
  subst he
  exact ⟨_, rfl, law_post rowLaid rowMaps rowFull (by rw [Try.params6]; exact of_decide_eq_true (by kernel_rfl)) (by kernel_rfl) Try.underlying4 rfl hW' rfl hb⟩

/-- The given statement. -/
theorem slotNilProved : Rows.SlotNilSaid :=
  OpenClaim.holds_of_wide 6 Try.f6 rfl rfl rfl rfl rfl rfl rfl ⟨rfl, rfl, rfl, rfl, rfl⟩ rfl rfl rfl rfl rfl (by kernel_rfl) Try.func6 (by kernel_rfl)
    (of_decide_eq_true (by kernel_rfl)) (by unfold Func.isWrapper; first | (rw [if_pos (by decide +kernel)]; kernel_rfl) | (rw [if_neg (by decide +kernel)]; exact ⟨rfl, rfl⟩))
    (fun os started H enc _ => liftedSlotNil os started H enc)
end Go.Proofs.Ytnolalkkdigcbaa
