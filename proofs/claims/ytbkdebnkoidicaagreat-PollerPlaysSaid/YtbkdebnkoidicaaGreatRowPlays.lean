/-
 PollerPlays answers true at every input and leaves its arguments ars they were. No condition is laid on the input.
-/
import Derived.Test.YtbkdebnkoidicaaGreatY07
section
set_option linter.unusedVariables false
set_option maxRecDepth 20000
namespace Go.Proofs.YtbkdebnkoidicaaGreat
open Go.ChangeShapes Go.WideShapes Go.ChangeAt Go.RowKit Go.Joins Go.Deep
set_option maxRecDepth 100000 in
theorem liftedPollerPlays (os : Os) (started : os.Started) (H : Type) (enc : TypeId × Value → H) :
  ReturnsInHanded {} Tryz.checked os 6 .any (Rows.pollerPlaysSpec.pre6 enc Tryz.prog Tryz.f6 Rows.pollerPlaysRow.domain false) (Rows.pollerPlaysSpec.post enc Tryz.prog Tryz.f6 false true false false) := by
 refine returnsInHanded_of_change (C := Tryz.checked) rowOwn started (by kernel_rfl) Tryz.func6
  (ChangeSpec.witness6 (enc := enc) (C := Tryz.checked) false ⟨#[], #[.int .i64 0, .int .u64 0, .slice none 0 0], []⟩ 8 (by kernel_rfl) (by kernel_rfl) (by kernel_rfl) (by kernel_rfl)) ?_
 intro W base args ds gs before hval0 hW hcnd _
 have hval : ∀ (j : Nat) t v, Tryz.f6.params[j]? = some t → args[j]? = some v → Value.okWide Tryz.prog W .any base t v := hval0
 have hW' := hW
 obtain ⟨p, q, hA0, hV, rfl, hfz, hnd⟩ := hW
 have hA : DataW.TrodAll enc Tryz.prog W 0 (fun _ => true) true Tryz.f6.params.toList args.toList ds p := hA0
 rw [Tryz.params6] at hA hval
 obtain ⟨v0, vs0, d0, ds0, p0, q0, hargs, rfl, rfl, h0, r0⟩ := trodAll_cons hA
 obtain ⟨v1, vs1, d1, ds1, p1, q1, rfl, rfl, rfl, h1, r1⟩ := trodAll_cons r0
 obtain ⟨v2, vs2, d2, ds2, p2, q2, rfl, rfl, rfl, h2, r2⟩ := trodAll_cons r1
 obtain ⟨rfl, rfl, rfl⟩ := trodAll_nil r2
 obtain rfl : args = #[v0, v1, v2] := by cases args; simp_all
 obtain ⟨m, rfl, rfl, rfl, w0⟩ := open_int Tryz.underlying3 (hval 0 3 v0 rfl rfl) h0
 obtain ⟨u1, rfl, rfl, rfl, w1⟩ := open_int Tryz.underlying28 (hval 1 28 v1 rfl rfl) h1
 obtain ⟨oa2, ent2, l2, c2, rfl, harg2, hent2, hbig2, hG2⟩ := open_arg (enc' := encA11) (G := fun x : Ac11 => x.tm ≤ 18446744073709551615) (sz := 7) Tryz.underlying52 (by kernel_rfl) (by omega) (fun m cs y h => decA2 m cs y h) (hval 2 52 v2 rfl rfl) h2
 obtain ⟨now, rfl, hnow⟩ := wf_u64 w1
 have hcalls : Calls Tryz.prog 6 #[.int .i64 m, .int .u64 (now : Int), .slice oa2 l2.length c2] W fun e W' => e = .returned (.bool true) ∧ Below W.heap.size W W' := by
  have hb1 : l2.length ≤ 2 ^ 63 - 1 := hbig2
  by_cases h : 70 < l2.length
  ·exact Spec.row ((plays_long m now oa2 l2.length c2 (by omega) h).mono fun r H1 hp => ⟨hp.1, fun x hx => by cases hx⟩) (hok_nil W)
  by_cases hk : m < 1 ∨ 64 < m ∨ now = 18446744073709551615
  ·exact Spec.row ((plays_bad m now (by omega) oa2 l2.length c2 (by omega) hk).mono fun r H1 hp => ⟨hp.1, fun x hx => by cases hx⟩) (hok_nil W)
  obtain ⟨M, rfl⟩ := Int.eq_ofNat_of_zero_le (show 0 ≤ m by omega)
  exact Spec.row ((plays_ok M (by omega) (by omega) now (by omega) oa2 ent2 l2 c2 harg2 hG2 (by omega)).mono fun r H1 hp => ⟨hp.1, fun x hx => by rw [hp.2]; exact hx⟩) (hok_one hent2)
 refine hcalls.mono fun e W' ⟨he, hb⟩ => ?_
 subst he
 exact ⟨_, rfl, law_post rowLaid rowMaps rowFull (by rw [Tryz.params6]; exact of_decide_eq_true (by kernel_rfl)) (by kernel_rfl) Tryz.underlying4 rfl hW' rfl hb⟩
/-- The given statement. -/
theorem pollerPlaysProved : Rows.PollerPlaysSaid :=
 OpenClaim.holds_of_wide 6 Tryz.f6 rfl rfl rfl rfl rfl rfl rfl ⟨rfl, rfl, rfl, rfl, rfl⟩ rfl rfl rfl rfl rfl (by kernel_rfl) Tryz.func6 (by kernel_rfl)
  (of_decide_eq_true (by kernel_rfl)) (by unfold Func.isWrapper; first | (rw [if_pos (by decide +kernel)]; kernel_rfl) | (rw [if_neg (by decide +kernel)]; exact ⟨rfl, rfl⟩))
  (fun os started H enc _ => liftedPollerPlays os started H enc)
end Go.Proofs.YtbkdebnkoidicaaGreat
end
