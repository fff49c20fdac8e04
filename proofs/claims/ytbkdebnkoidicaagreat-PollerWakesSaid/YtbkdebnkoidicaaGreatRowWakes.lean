/-
  PollerWakes answers true at every input and leaves its arguments ars they were. No condition is laid on the input.
-/
import Derived.Test.YtbkdebnkoidicaaGreatY05
section
set_option linter.unusedVariables false
set_option maxRecDepth 20000
namespace Go.Proofs.YtbkdebnkoidicaaGreat
open Go.ChangeShapes Go.WideShapes Go.ChangeAt Go.RowKit Go.Joins Go.Deep
set_option maxRecDepth 100000 in
theorem liftedPollerWakes (os : Os) (started : os.Started) (H : Type) (enc : TypeId × Value → H) :
    ReturnsInHanded {} Tryz.checked os 4 .any (Rows.pollerWakesSpec.pre6 enc Tryz.prog Tryz.f4 Rows.pollerWakesRow.domain false) (Rows.pollerWakesSpec.post enc Tryz.prog Tryz.f4 false true false false) := by
  refine returnsInHanded_of_change (C := Tryz.checked) rowOwn started (by kernel_rfl) Tryz.func4
    (ChangeSpec.witness6 (enc := enc) (C := Tryz.checked) false ⟨#[], #[.int .i64 0, .int .u64 0, .int .u64 0, .bool false], []⟩ 8 (by kernel_rfl) (by kernel_rfl) (by kernel_rfl) (by kernel_rfl)) ?_
  intro W base args ds gs before hval0 hW hcnd _
  have hval : ∀ (j : Nat) t v, Tryz.f4.params[j]? = some t → args[j]? = some v → Value.okWide Tryz.prog W .any base t v := hval0
  have hW' := hW
  obtain ⟨p, q, hA0, hV, rfl, hfz, hnd⟩ := hW
  have hA : DataW.TrodAll enc Tryz.prog W 0 (fun _ => true) true Tryz.f4.params.toList args.toList ds p := hA0
  rw [Tryz.params4] at hA hval
  obtain ⟨v0, vs0, d0, ds0, p0, q0, hargs, rfl, rfl, h0, r0⟩ := trodAll_cons hA
  obtain ⟨v1, vs1, d1, ds1, p1, q1, rfl, rfl, rfl, h1, r1⟩ := trodAll_cons r0
  obtain ⟨v2, vs2, d2, ds2, p2, q2, rfl, rfl, rfl, h2, r2⟩ := trodAll_cons r1
  obtain ⟨v3, vs3, d3, ds3, p3, q3, rfl, rfl, rfl, h3, r3⟩ := trodAll_cons r2
  obtain ⟨rfl, rfl, rfl⟩ := trodAll_nil r3
  obtain rfl : args = #[v0, v1, v2, v3] := by cases args; simp_all
  obtain ⟨m, rfl, rfl, rfl, w0⟩ := open_int Tryz.underlying3 (hval 0 3 v0 rfl rfl) h0
  obtain ⟨u1, rfl, rfl, rfl, w1⟩ := open_int Tryz.underlying27 (hval 1 27 v1 rfl rfl) h1
  obtain ⟨u2, rfl, rfl, rfl, w2⟩ := open_int Tryz.underlying27 (hval 2 27 v2 rfl rfl) h2
  obtain ⟨b, rfl, rfl, rfl⟩ := open_bool Tryz.underlying4 (hval 3 4 v3 rfl rfl) h3
  obtain ⟨file, rfl, hfile⟩ := wf_u64 w1
  obtain ⟨dirs, rfl, hdirs⟩ := wf_u64 w2
  have hcalls : Calls Tryz.prog 4 #[.int .i64 m, .int .u64 (file : Int), .int .u64 (dirs : Int), .bool b] W fun e W' => e = .returned (.bool true) ∧ Below W.heap.size W W' := by
    by_cases h : m < 1 ∨ 64 < m
    · exact Spec.row ((lwakes_bad m file dirs b h).mono fun r H1 hp => ⟨hp.1, fun x hx => by cases hx⟩) (hok_nil W)
    obtain ⟨M, rfl⟩ := Int.eq_ofNat_of_zero_le (show 0 ≤ m by omega)
    exact Spec.row ((lwakes_ok M (by omega) (by omega) file dirs b).mono fun r H1 hp => ⟨hp.1, fun x hx => by cases hx⟩) (hok_nil W)
  refine hcalls.mono fun e W' ⟨he, hb⟩ => ?_
  subst he
  exact ⟨_, rfl, law_post rowLaid rowMaps rowFull (by rw [Tryz.params4]; exact of_decide_eq_true (by kernel_rfl)) (by kernel_rfl) Tryz.underlying4 rfl hW' rfl hb⟩
/-- The given statement. -/
theorem pollerWakesProved : Rows.PollerWakesSaid :=
  OpenClaim.holds_of_wide 4 Tryz.f4 rfl rfl rfl rfl rfl rfl rfl ⟨rfl, rfl, rfl, rfl, rfl⟩ rfl rfl rfl rfl rfl (by kernel_rfl) Tryz.func4 (by kernel_rfl)
    (of_decide_eq_true (by kernel_rfl)) (by unfold Func.isWrapper; first | (rw [if_pos (by decide +kernel)]; kernel_rfl) | (rw [if_neg (by decide +kernel)]; exact ⟨rfl, rfl⟩))
    (fun os started H enc _ => liftedPollerWakes os started H enc)
end Go.Proofs.YtbkdebnkoidicaaGreat
end
