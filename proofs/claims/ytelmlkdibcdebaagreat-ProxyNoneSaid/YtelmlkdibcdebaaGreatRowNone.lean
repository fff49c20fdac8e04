/-
  ProxyNone answers true at every input and leaves its arguments ars they were. No condition is laid on the input.
-/
import Derived.Test.YtelmlkdibcdebaaGreatY07
section
set_option linter.unusedVariables false
set_option maxRecDepth 20000
namespace Go.Proofs.YtelmlkdibcdebaaGreat
open Go.ChangeShapes Go.WideShapes Go.ChangeAt Go.RowKit Go.Joins Go.Deep
set_option maxRecDepth 100000 in
theorem liftedProxyNone (os : Os) (started : os.Started) (H : Type) (enc : TypeId × Value → H) :
    ReturnsInHanded {} Tryz.checked os 6 .any (Rows.proxyNoneSpec.pre6 enc Tryz.prog Tryz.f6 Rows.proxyNoneRow.domain false) (Rows.proxyNoneSpec.post enc Tryz.prog Tryz.f6 false true false false) := by
  refine returnsInHanded_of_change (C := Tryz.checked) rowOwn started (by kernel_rfl) Tryz.func6
    (ChangeSpec.witness6 (enc := enc) (C := Tryz.checked) false ⟨#[], #[.agg #[.int .i64 0, .int .i64 0, .int .u64 0, .int .u64 0, .string ⟨#[]⟩, .bool false]], []⟩ 8 (by kernel_rfl) (by kernel_rfl) (by kernel_rfl) (by kernel_rfl)) ?_
  intro W base args ds gs before hval0 hW hcnd _
  have hval : ∀ (j : Nat) t v, Tryz.f6.params[j]? = some t → args[j]? = some v → Value.okWide Tryz.prog W .any base t v := hval0
  have hW' := hW
  obtain ⟨p, q, hA0, hV, rfl, hfz, hnd⟩ := hW
  have hA : DataW.TrodAll enc Tryz.prog W 0 (fun _ => true) true Tryz.f6.params.toList args.toList ds p := hA0
  rw [Tryz.params6] at hA hval
  obtain ⟨v0, vs0, d0, ds0, p0, q0, hargs, rfl, rfl, h0, r0⟩ := trodAll_cons hA
  obtain ⟨rfl, rfl, rfl⟩ := trodAll_nil r0
  obtain rfl : args = #[v0] := by cases args; simp_all
  obtain ⟨cs0, m0, y0, rfl, k0⟩ := open_struct Tryz.underlying43 (hval 0 43 v0 rfl rfl) h0
  obtain ⟨wt, n, now9, dl9, key, good, rfl, wa, wb, wc, wd, _⟩ := decA m0 cs0 y0 k0
  obtain ⟨now, rfl, hnow⟩ := wf_u64 wc
  obtain ⟨dl, rfl, hdl⟩ := wf_u64 wd
  have hcalls : Calls Tryz.prog 6 #[.agg #[.int .i64 wt, .int .i64 n, .int .u64 (now : Int), .int .u64 (dl : Int), .string key, .bool good]] W fun e W' => e = .returned (.bool true) ∧ Below W.heap.size W W' := by
    exact Spec.row ((none_ok wt n now dl key good).mono fun r H1 hp => ⟨hp.1, fun x hx => by cases hx⟩) (hok_nil W)
  refine hcalls.mono fun e W' ⟨he, hb⟩ => ?_
  subst he
  exact ⟨_, rfl, law_post rowLaid rowMaps rowFull (by rw [Tryz.params6]; exact of_decide_eq_true (by kernel_rfl)) (by kernel_rfl) Tryz.underlying4 rfl hW' rfl hb⟩
/-- The given statement. -/
theorem proxyNoneProved : Rows.ProxyNoneSaid :=
  OpenClaim.holds_of_wide 6 Tryz.f6 rfl rfl rfl rfl rfl rfl rfl ⟨rfl, rfl, rfl, rfl, rfl⟩ rfl rfl rfl rfl rfl (by kernel_rfl) Tryz.func6 (by kernel_rfl)
    (of_decide_eq_true (by kernel_rfl)) (by unfold Func.isWrapper; first | (rw [if_pos (by decide +kernel)]; kernel_rfl) | (rw [if_neg (by decide +kernel)]; exact ⟨rfl, rfl⟩))
    (fun os started H enc _ => liftedProxyNone os started H enc)
end Go.Proofs.YtelmlkdibcdebaaGreat
end
