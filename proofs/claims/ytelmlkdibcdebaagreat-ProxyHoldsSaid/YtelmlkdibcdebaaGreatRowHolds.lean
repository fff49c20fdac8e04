/-
 ProxyHolds answers true at every input and leaves its arguments ars they were. No condition is laid on the input.
-/
import Derived.Test.YtelmlkdibcdebaaGreatY08
set_option linter.unusedVariables false
set_option maxRecDepth 20000
section
set_option linter.unusedVariables false
set_option maxRecDepth 20000
namespace Go.Proofs.YtelmlkdibcdebaaGreat
open Go.ChangeShapes Go.WideShapes Go.ChangeAt Go.RowKit Go.Joins Go.Deep
set_option maxRecDepth 100000 in
theorem liftedProxyHolds (os : Os) (started : os.Started) (H : Type) (enc : TypeId × Value → H) :
  ReturnsInHanded {} Tryz.checked os 4 .any (Rows.proxyHoldsSpec.pre6 enc Tryz.prog Tryz.f4 Rows.proxyHoldsRow.domain false) (Rows.proxyHoldsSpec.post enc Tryz.prog Tryz.f4 false true false false) := by
 refine returnsInHanded_of_change (C := Tryz.checked) rowOwn started (by kernel_rfl) Tryz.func4
  (ChangeSpec.witness6 (enc := enc) (C := Tryz.checked) false ⟨#[], #[.agg #[.int .i64 0, .slice none 0 0, .int .i64 0, .int .u64 0, .int .i64 0, .int .i64 0, .int .u64 0, .int .u64 0, .int .u64 0, .int .i64 0, .int .i64 0, .int .i64 0, .int .i64 0, .int .u32 0], .slice none 0 0], []⟩ 8 (by kernel_rfl) (by kernel_rfl) (by kernel_rfl) (by kernel_rfl)) ?_
 intro W base args ds gs before hval0 hW hcnd _
 have hval : ∀ (j : Nat) t v, Tryz.f4.params[j]? = some t → args[j]? = some v → Value.okWide Tryz.prog W .any base t v := hval0
 have hW' := hW
 obtain ⟨p, q, hA0, hV, rfl, hfz, hnd⟩ := hW
 have hA : DataW.TrodAll enc Tryz.prog W 0 (fun _ => true) true Tryz.f4.params.toList args.toList ds p := hA0
 rw [Tryz.params4] at hA hval
 obtain ⟨v0, vs0, d0, ds0, p0, q0, hargs, rfl, rfl, h0, r0⟩ := trodAll_cons hA
 obtain ⟨v1, vs1, d1, ds1, p1, q1, rfl, rfl, rfl, h1, r1⟩ := trodAll_cons r0
 obtain ⟨rfl, rfl, rfl⟩ := trodAll_nil r1
 obtain rfl : args = #[v0, v1] := by cases args; simp_all
 obtain ⟨cs0, m0, y0, rfl, k0⟩ := open_struct Tryz.underlying30 (hval 0 30 v0 rfl rfl) h0
 obtain ⟨k, oa, ent, W9, c, limit, brk9, op, idle, keep9, base9, most9, num, den, tries, jit, seed9, rfl, w0, w2, w3, w4, w5, w6, w7, w8, w9, w10, w11, w12, w13, ha, hok, hbig, hG, _⟩ := decS m0 cs0 y0 k0
 obtain ⟨oa1, ent1, l1, c1, rfl, harg1, hent1, hbig1, hG1⟩ := open_arg (enc' := encA9) (G := fun a => a.now ≤ 18446744073709551615) (sz := 6) Tryz.underlying41 (by kernel_rfl) (by omega) (fun m cs y h => decA9 m cs y h) (hval 1 41 v1 rfl rfl) h1
 obtain ⟨brk, rfl, hbrk⟩ := wf_u64 w3
 obtain ⟨keep, rfl, hkeep⟩ := wf_u64 w6
 obtain ⟨base, rfl, hbase⟩ := wf_u64 w7
 obtain ⟨most, rfl, hmost⟩ := wf_u64 w8
 obtain ⟨seed, rfl, hseed⟩ := wf_u32 w13
 have hlW : W9.length ≤ 9223372036854775807 := hbig
 have hrd := Rd.arg ha
 have hcalls : Calls Tryz.prog 4 #[.agg (xsetL k oa W9.length c limit brk op idle keep ⟨base, most, num, den, tries, jit, seed⟩).toArray, .slice oa1 l1.length c1] W fun e W' => e = .returned (.bool true) ∧ Below W.heap.size W W' := by
  have hlT : l1.length ≤ 9223372036854775807 := hbig1
  by_cases hf : fewB W9.length l1 40
  ·by_cases hv : VOkB k W9 limit brk
   ·obtain ⟨k, rfl⟩ := Int.eq_ofNat_of_zero_le (show 0 ≤ k by have := hv.1; omega)
    by_cases hp : OkP ⟨base, most, num, den, tries, jit, seed⟩
    ·by_cases hq : POk op idle keep
     ·(rcases two_or hok hent1 with hh | hh; exact Spec.row ((holds_two k W9 oa c ent hrd limit brk op idle keep ⟨base, most, num, den, tries, jit, seed⟩ l1 oa1 c1 ent1 harg1 hlW hlT hf hG1 hv hp hq hseed hkeep).mono fun r H1 hp => ⟨hp.1, fun x hx => by rw [hp.2]; exact hx⟩) hh; (subst hh; exact Spec.row ((holds_one k W9 oa c ent hrd limit brk op idle keep ⟨base, most, num, den, tries, jit, seed⟩ l1 oa1 c1 harg1 hlW hlT hf hG1 hv hp hq hseed hkeep).mono fun r H1 hp => ⟨hp.1, fun x hx => by rw [hp.2]; exact hx⟩) (hok_one hok)))
     ·(rcases two_or hok hent1 with hh | hh; exact Spec.row ((holds_two3 k W9 oa c ent hrd limit brk op idle keep ⟨base, most, num, den, tries, jit, seed⟩ l1 oa1 c1 ent1 harg1 hlW hlT hf hv hp hq).mono fun r H1 hp => ⟨hp.1, fun x hx => by rw [hp.2]; exact hx⟩) hh; (subst hh; exact Spec.row ((holds_one3 k W9 oa c ent hrd limit brk op idle keep ⟨base, most, num, den, tries, jit, seed⟩ l1 oa1 c1 harg1 hlW hlT hf hv hp hq).mono fun r H1 hp => ⟨hp.1, fun x hx => by rw [hp.2]; exact hx⟩) (hok_one hok)))
    ·(rcases two_or hok hent1 with hh | hh; exact Spec.row ((holds_two2 k W9 oa c ent hrd limit brk op idle keep ⟨base, most, num, den, tries, jit, seed⟩ l1 oa1 c1 ent1 harg1 hlW hlT hf hv hp).mono fun r H1 hp => ⟨hp.1, fun x hx => by rw [hp.2]; exact hx⟩) hh; (subst hh; exact Spec.row ((holds_one2 k W9 oa c ent hrd limit brk op idle keep ⟨base, most, num, den, tries, jit, seed⟩ l1 oa1 c1 harg1 hlW hlT hf hv hp).mono fun r H1 hp => ⟨hp.1, fun x hx => by rw [hp.2]; exact hx⟩) (hok_one hok)))
   ·(rcases two_or hok hent1 with hh | hh; exact Spec.row ((holds_two1 k W9 oa c ent hrd limit brk op idle keep ⟨base, most, num, den, tries, jit, seed⟩ l1 oa1 c1 ent1 harg1 hlW hlT hf hv).mono fun r H1 hp => ⟨hp.1, fun x hx => by rw [hp.2]; exact hx⟩) hh; (subst hh; exact Spec.row ((holds_one1 k W9 oa c ent hrd limit brk op idle keep ⟨base, most, num, den, tries, jit, seed⟩ l1 oa1 c1 harg1 hlW hlT hf hv).mono fun r H1 hp => ⟨hp.1, fun x hx => by rw [hp.2]; exact hx⟩) (hok_one hok)))
  ·exact Spec.row ((holds_big k W9 oa c ent hrd limit brk op idle keep ⟨base, most, num, den, tries, jit, seed⟩ l1 oa1 c1 ent1 harg1 hlW hlT hf).mono fun r H1 hp => ⟨hp.1, fun x hx => by rw [hp.2]; exact hx⟩) (hok_one hent1)
 refine hcalls.mono fun e W' ⟨he, hb⟩ => ?_
 subst he
 exact ⟨_, rfl, law_post rowLaid rowMaps rowFull (by rw [Tryz.params4]; exact of_decide_eq_true (by kernel_rfl)) (by kernel_rfl) Tryz.underlying4 rfl hW' rfl hb⟩
/-- The given statement. -/
theorem proxyHoldsProved : Rows.ProxyHoldsSaid :=
 OpenClaim.holds_of_wide 4 Tryz.f4 rfl rfl rfl rfl rfl rfl rfl ⟨rfl, rfl, rfl, rfl, rfl⟩ rfl rfl rfl rfl rfl (by kernel_rfl) Tryz.func4 (by kernel_rfl)
  (of_decide_eq_true (by kernel_rfl)) (by unfold Func.isWrapper; first | (rw [if_pos (by decide +kernel)]; kernel_rfl) | (rw [if_neg (by decide +kernel)]; exact ⟨rfl, rfl⟩))
  (fun os started H enc _ => liftedProxyHolds os started H enc)
end Go.Proofs.YtelmlkdibcdebaaGreat
end
