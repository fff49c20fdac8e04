/-
  RpcCalls answers true at every input and leaves its arguments ars they were. No condition is laid on the input.
-/
import Derived.Test.YtdelhikejgoffaaGreatY06
section
set_option linter.unusedVariables false
set_option maxRecDepth 20000
namespace Go.Proofs.YtdelhikejgoffaaGreat
open Go.ChangeShapes Go.WideShapes Go.ChangeAt Go.RowKit Go.Joins Go.Deep
set_option maxRecDepth 100000 in
theorem liftedRpcCalls (os : Os) (started : os.Started) (H : Type) (enc : TypeId × Value → H) :
    ReturnsInHanded {} Tryz.checked os 4 .any (Rows.rpcCallsSpec.pre6 enc Tryz.prog Tryz.f4 Rows.rpcCallsRow.domain false) (Rows.rpcCallsSpec.post enc Tryz.prog Tryz.f4 false true false false) := by
  refine returnsInHanded_of_change (C := Tryz.checked) rowOwn started (by kernel_rfl) Tryz.func4
    (ChangeSpec.witness6 (enc := enc) (C := Tryz.checked) false ⟨#[], #[.slice none 0 0], []⟩ 8 (by kernel_rfl) (by kernel_rfl) (by kernel_rfl) (by kernel_rfl)) ?_
  intro W base args ds gs before hval0 hW hcnd _
  have hval : ∀ (j : Nat) t v, Tryz.f4.params[j]? = some t → args[j]? = some v → Value.okWide Tryz.prog W .any base t v := hval0
  have hW' := hW
  obtain ⟨p, q, hA0, hV, rfl, hfz, hnd⟩ := hW
  have hA : DataW.TrodAll enc Tryz.prog W 0 (fun _ => true) true Tryz.f4.params.toList args.toList ds p := hA0
  rw [Tryz.params4] at hA hval
  obtain ⟨v0, vs0, d0, ds0, p0, q0, hargs, rfl, rfl, h0, r0⟩ := trodAll_cons hA
  obtain ⟨rfl, rfl, rfl⟩ := trodAll_nil r0
  obtain rfl : args = #[v0] := by cases args; simp_all
  obtain ⟨oa0, ent0, l0, c0, rfl, harg0, hent0, hbig0, hG0⟩ := open_arg (enc' := encAc) (G := fun x : Ac => ∃ en, ((Arg x.oa en 1 encY x.data ∧ x.data.length ≤ maxLen) ∧ x.t ≤ 18446744073709551615) ∧ en.ok W) (sz := 5) Tryz.underlying22 (by kernel_rfl) (by omega) (fun m cs y h => decAcT m cs y h) (hval 0 22 v0 rfl rfl) h0
  have hcalls : Calls Tryz.prog 4 #[.slice oa0 l0.length c0] W fun e W' => e = .returned (.bool true) ∧ Below W.heap.size W W' := by
    obtain ⟨es, hes, hel⟩ := ents9 (P := fun (x : Ac) en => (Arg x.oa en 1 encY x.data ∧ x.data.length ≤ maxLen) ∧ x.t ≤ 18446744073709551615) l0 hG0
    obtain ⟨DH, hDH, hall⟩ := dedup9 (W := W) (ent0 :: es) (fun e he => by
      rcases List.mem_cons.1 he with rfl | he
      · exact hent0
      · exact hes e he)
    refine Spec.row ((callsL_ok l0 (by unfold maxLen at hbig0; omega) DH (fun m hm => by obtain ⟨e, he, ⟨h9, _⟩, _⟩ := hel m hm; exact RdM.of (hall e (List.mem_cons_of_mem _ he)) (RdB.arg h9)) (fun m hm => by obtain ⟨e, he, _, h9⟩ := hel m hm; exact h9) ?_).mono fun r H1 hp => ⟨hp.1, fun x hx => by rw [hp.2]; exact hx⟩) hDH
    intro hl
    rcases harg0 with ⟨h, _⟩ | ⟨b, k, cs, e, fr, h1, h2, h3⟩
    · rw [h] at hl; exact absurd hl (by simp)
    · exact ⟨b, k, cs, e, fr, h1, h2 ▸ hall _ (List.mem_cons_self ..), h3⟩
  refine hcalls.mono fun e W' ⟨he, hb⟩ => ?_
  subst he
  exact ⟨_, rfl, law_post rowLaid rowMaps rowFull (by rw [Tryz.params4]; exact of_decide_eq_true (by kernel_rfl)) (by kernel_rfl) Tryz.underlying4 rfl hW' rfl hb⟩
/-- The given statement. -/
theorem rpcCallsProved : Rows.RpcCallsSaid :=
  OpenClaim.holds_of_wide 4 Tryz.f4 rfl rfl rfl rfl rfl rfl rfl ⟨rfl, rfl, rfl, rfl, rfl⟩ rfl rfl rfl rfl rfl (by kernel_rfl) Tryz.func4 (by kernel_rfl)
    (of_decide_eq_true (by kernel_rfl)) (by unfold Func.isWrapper; first | (rw [if_pos (by decide +kernel)]; kernel_rfl) | (rw [if_neg (by decide +kernel)]; exact ⟨rfl, rfl⟩))
    (fun os started H enc _ => liftedRpcCalls os started H enc)
end Go.Proofs.YtdelhikejgoffaaGreat
end
