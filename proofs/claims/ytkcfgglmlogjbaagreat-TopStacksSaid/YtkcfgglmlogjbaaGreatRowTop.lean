/-
  TopStacks answers true at every input and leaves its arguments ars they were. No condition is laid on the input.
-/
import Derived.Test.YtkcfgglmlogjbaaGreatY06
section
set_option linter.unusedVariables false
set_option maxRecDepth 20000
namespace Go.Proofs.YtkcfgglmlogjbaaGreat
open Go.ChangeShapes Go.WideShapes Go.ChangeAt Go.RowKit Go.Joins Go.Deep
set_option maxRecDepth 100000 in
theorem liftedTopStacks (os : Os) (started : os.Started) (H : Type) (enc : TypeId × Value → H) :
    ReturnsInHanded {} Tryz.checked os 3 .any (Rows.topStacksSpec.pre6 enc Tryz.prog Tryz.f3 Rows.topStacksRow.domain false) (Rows.topStacksSpec.post enc Tryz.prog Tryz.f3 false true false false) := by
  refine returnsInHanded_of_change (C := Tryz.checked) rowOwn started (by kernel_rfl) Tryz.func3
    (ChangeSpec.witness6 (enc := enc) (C := Tryz.checked) false ⟨#[], #[.slice none 0 0, .int .i64 0, .slice none 0 0], []⟩ 8 (by kernel_rfl) (by kernel_rfl) (by kernel_rfl) (by kernel_rfl)) ?_
  intro W base args ds gs before hval0 hW hcnd _
  have hval : ∀ (j : Nat) t v, Tryz.f3.params[j]? = some t → args[j]? = some v → Value.okWide Tryz.prog W .any base t v := hval0
  have hW' := hW
  obtain ⟨p, q, hA0, hV, rfl, hfz, hnd⟩ := hW
  have hA : DataW.TrodAll enc Tryz.prog W 0 (fun _ => true) true Tryz.f3.params.toList args.toList ds p := hA0
  rw [Tryz.params3] at hA hval
  obtain ⟨v0, vs0, d0, ds0, p0, q0, hargs, rfl, rfl, h0, r0⟩ := trodAll_cons hA
  obtain ⟨v1, vs1, d1, ds1, p1, q1, rfl, rfl, rfl, h1, r1⟩ := trodAll_cons r0
  obtain ⟨v2, vs2, d2, ds2, p2, q2, rfl, rfl, rfl, h2, r2⟩ := trodAll_cons r1
  obtain ⟨rfl, rfl, rfl⟩ := trodAll_nil r2
  obtain rfl : args = #[v0, v1, v2] := by cases args; simp_all
  obtain ⟨oa0, ent0, l0, c0, rfl, harg0, hent0, hbig0, hG0⟩ := open_arg (enc' := encT) (G := fun x : Pt => ∃ en, (Arg x.oa en 1 encY x.l ∧ x.l.length ≤ maxLen) ∧ en.ok W) (sz := 1) Tryz.underlying22 (by kernel_rfl) (by omega) (fun m cs y h => decPt m cs y h) (hval 0 22 v0 rfl rfl) h0
  obtain ⟨w, rfl, rfl, rfl, w1⟩ := open_int Tryz.underlying3 (hval 1 3 v1 rfl rfl) h1
  obtain ⟨oa2, ent2, l2, c2, rfl, harg2, hent2, hbig2, hG2⟩ := open_arg (enc' := encY) (G := fun _ => True) (sz := 1) Tryz.underlying23 (by kernel_rfl) (by omega) (fun m cs y h => decB m cs y h) (hval 2 23 v2 rfl rfl) h2
  have hcalls : Calls Tryz.prog 3 #[.slice oa0 l0.length c0, .int .i64 w, .slice oa2 l2.length c2] W fun e W' => e = .returned (.bool true) ∧ Below W.heap.size W W' := by
    obtain ⟨es, hes, hel⟩ := entsT (P := fun (x : Pt) en => Arg x.oa en 1 encY x.l ∧ x.l.length ≤ maxLen) l0 hG0
    obtain ⟨DH, hDH, hall⟩ := dedupT (W := W) (ent0 :: ent2 :: es) (fun e he => by
      rcases List.mem_cons.1 he with rfl | he
      · exact hent0
      · rcases List.mem_cons.1 he with rfl | he
        · exact hent2
        · exact hes e he)
    refine Spec.row ((top_ok l0 l2 DH (fun m hm => by obtain ⟨e, he, h9, _⟩ := hel m hm; exact ⟨e, hall e (List.mem_cons_of_mem _ (List.mem_cons_of_mem _ he)), RdB.arg h9⟩) ?_ ⟨ent2, hall ent2 (List.mem_cons_of_mem _ (List.mem_cons_self ..)), RdB.arg harg2⟩ w (by unfold maxLen at hbig0; omega) (by unfold maxLen at hbig2; omega) (fun m hm => by obtain ⟨e, he, _, h9⟩ := hel m hm; unfold maxLen at h9; omega)).mono fun r H1 hp => ⟨hp.1, fun x hx => by rw [hp.2]; exact hx⟩) hDH
    intro hl
    rcases harg0 with ⟨h, _⟩ | ⟨b, k, cs, e, fr, h1, h2, h3⟩
    · rw [h] at hl; exact absurd hl (by simp)
    · exact ⟨b, k, cs, e, fr, h1, h2 ▸ hall _ (List.mem_cons_self ..), fun i m hm => by have := h3 i m hm 0 _ rfl; simpa using this⟩
  refine hcalls.mono fun e W' ⟨he, hb⟩ => ?_
  subst he
  exact ⟨_, rfl, law_post rowLaid rowMaps rowFull (by rw [Tryz.params3]; exact of_decide_eq_true (by kernel_rfl)) (by kernel_rfl) Tryz.underlying4 rfl hW' rfl hb⟩
/-- The given statement. -/
theorem topStacksProved : Rows.TopStacksSaid :=
  OpenClaim.holds_of_wide 3 Tryz.f3 rfl rfl rfl rfl rfl rfl rfl ⟨rfl, rfl, rfl, rfl, rfl⟩ rfl rfl rfl rfl rfl (by kernel_rfl) Tryz.func3 (by kernel_rfl)
    (of_decide_eq_true (by kernel_rfl)) (by unfold Func.isWrapper; first | (rw [if_pos (by decide +kernel)]; kernel_rfl) | (rw [if_neg (by decide +kernel)]; exact ⟨rfl, rfl⟩))
    (fun os started H enc _ => liftedTopStacks os started H enc)
end Go.Proofs.YtkcfgglmlogjbaaGreat
end
