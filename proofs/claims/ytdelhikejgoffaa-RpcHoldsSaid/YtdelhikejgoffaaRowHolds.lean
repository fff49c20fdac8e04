/-
  RpcHolds answers true at every input and leaves its arguments ars they were. No condition is laid on the input.
-/
import Derived.Test.YtdelhikejgoffaaY05
section
set_option linter.unusedVariables false
set_option maxRecDepth 20000
namespace Go.Proofs.Ytdelhikejgoffaa
open Go.ChangeShapes Go.WideShapes Go.ChangeAt Go.RowKit Go.Joins Go.Deep
set_option maxRecDepth 100000 in
theorem liftedRpcHolds (os : Os) (started : os.Started) (H : Type) (enc : TypeId × Value → H) :
    ReturnsInHanded {} Try.checked os 4 .any (Rows.rpcHoldsSpec.pre6 enc Try.prog Try.f4 Rows.rpcHoldsRow.domain false) (Rows.rpcHoldsSpec.post enc Try.prog Try.f4 false true false false) := by
  refine returnsInHanded_of_change (C := Try.checked) rowOwn started (by kernel_rfl) Try.func4
    (ChangeSpec.witness6 (enc := enc) (C := Try.checked) false ⟨#[], #[.slice none 0 0], []⟩ 8 (by kernel_rfl) (by kernel_rfl) (by kernel_rfl) (by kernel_rfl)) ?_
  intro W base args ds gs before hval0 hW hcnd _
  have hval : ∀ (j : Nat) t v, Try.f4.params[j]? = some t → args[j]? = some v → Value.okWide Try.prog W .any base t v := hval0
  have hW' := hW
  obtain ⟨p, q, hA0, hV, rfl, hfz, hnd⟩ := hW
  have hA : DataW.TrodAll enc Try.prog W 0 (fun _ => true) true Try.f4.params.toList args.toList ds p := hA0
  rw [Try.params4] at hA hval
  obtain ⟨v0, vs0, d0, ds0, p0, q0, hargs, rfl, rfl, h0, r0⟩ := trodAll_cons hA
  obtain ⟨rfl, rfl, rfl⟩ := trodAll_nil r0
  obtain rfl : args = #[v0] := by cases args; simp_all
  obtain ⟨oa0, ent0, l0, c0, rfl, harg0, hent0, hbig0, hG0⟩ := open_arg (enc' := encMv) (G := fun x : Mv => Arg x.oa x.en 1 encY x.data ∧ x.en.ok W ∧ x.data.length ≤ maxLen) (sz := 3) Try.underlying50 (by kernel_rfl) (by omega) (fun m cs y h => decMv m cs y h) (hval 0 50 v0 rfl rfl) h0
  have hcalls : Calls Try.prog 4 #[.slice oa0 l0.length c0] W fun e W' => e = .returned (.bool true) ∧ Below W.heap.size W W' := by
    obtain ⟨DH, hDH, hall⟩ := dedup (W := W) (ent0 :: l0.map fun m => m.en) (fun e he => by
      rcases List.mem_cons.1 he with rfl | he
      · exact hent0
      · obtain ⟨m, hm, rfl⟩ := List.mem_map.1 he
        exact (hG0 m hm).2.1)
    refine Spec.row ((holds_ok l0 (by unfold maxLen at hbig0; omega) DH (fun m hm => ⟨m.en, hall _ (List.mem_cons_of_mem _ (List.mem_map_of_mem hm)), RdB.arg (hG0 m hm).1⟩) (fun m hm => by have := (hG0 m hm).2.2; unfold maxLen at this; omega) ?_).mono fun r H1 hp => ⟨hp.1, fun x hx => by rw [hp.2]; exact hx⟩) hDH
    intro hl
    rcases harg0 with ⟨h, _⟩ | ⟨b, k, cs, e, fr, h1, h2, h3⟩
    · rw [h] at hl; exact absurd hl (by simp)
    · exact ⟨b, k, cs, e, fr, h1, h2 ▸ hall _ (List.mem_cons_self ..), h3⟩
  refine hcalls.mono fun e W' ⟨he, hb⟩ => ?_
  subst he
  exact ⟨_, rfl, law_post rowLaid rowMaps rowFull (by rw [Try.params4]; exact of_decide_eq_true (by kernel_rfl)) (by kernel_rfl) Try.underlying4 rfl hW' rfl hb⟩
/-- The given statement. -/
theorem rpcHoldsProved : Rows.RpcHoldsSaid :=
  OpenClaim.holds_of_wide 4 Try.f4 rfl rfl rfl rfl rfl rfl rfl ⟨rfl, rfl, rfl, rfl, rfl⟩ rfl rfl rfl rfl rfl (by kernel_rfl) Try.func4 (by kernel_rfl)
    (of_decide_eq_true (by kernel_rfl)) (by unfold Func.isWrapper; first | (rw [if_pos (by decide +kernel)]; kernel_rfl) | (rw [if_neg (by decide +kernel)]; exact ⟨rfl, rfl⟩))
    (fun os started H enc _ => liftedRpcHolds os started H enc)
end Go.Proofs.Ytdelhikejgoffaa
end
