/-
  SlotIterates answers true at every input and leaves its arguments as they were. No condition is laid on the input.
-/
import Derived.Test.YtnolalkkdigcbaaRowAct
import Derived.Test.YtnolalkkdigcbaaIterates
set_option linter.unusedVariables false
set_option maxRecDepth 20000
namespace Go.Proofs.Ytnolalkkdigcbaa

open Go.ChangeShapes Go.WideShapes Go.ChangeAt Go.RowKit Go.Joins

set_option maxRecDepth 100000 in
theorem liftedSlotIterates (os : Os) (started : os.Started) (H : Type) (enc : TypeId × Value → H) :
    ReturnsInHanded {} Try.checked os 3 .any (Rows.slotIteratesSpec.pre6 enc Try.prog Try.f3 Rows.slotIteratesRow.domain false) (Rows.slotIteratesSpec.post enc Try.prog Try.f3 false true false false) := by
  refine returnsInHanded_of_change (C := Try.checked) rowOwn started (by kernel_rfl) Try.func3
    (ChangeSpec.witness6 (enc := enc) (C := Try.checked) false ⟨#[], #[.int .i64 0, .slice none 0 0, .int .i64 0], []⟩ 8 (by kernel_rfl) (by kernel_rfl) (by kernel_rfl) (by kernel_rfl)) ?_
  intro W base args ds gs before hval0 hW hcnd _
  have hval : ∀ (j : Nat) t v, Try.f3.params[j]? = some t → args[j]? = some v → Value.okWide Try.prog W .any base t v := hval0
  have hW' := hW
  obtain ⟨p, q, hA0, hV, rfl, hfz, hnd⟩ := hW
  have hA : DataW.TrodAll enc Try.prog W 0 (fun _ => true) true Try.f3.params.toList args.toList ds p := hA0
  rw [Try.params3] at hA hval
  obtain ⟨v0, vs0, d0, ds0, p0, q0, hargs, rfl, rfl, h0, r0⟩ := trodAll_cons hA
  obtain ⟨v1, vs1, d1, ds1, p1, q1, rfl, rfl, rfl, h1, r1⟩ := trodAll_cons r0
  obtain ⟨v2, vs2, d2, ds2, p2, q2, rfl, rfl, rfl, h2, r2⟩ := trodAll_cons r1
  obtain ⟨rfl, rfl, rfl⟩ := trodAll_nil r2
  obtain rfl : args = #[v0, v1, v2] := by cases args; simp_all
  obtain ⟨most, rfl, rfl, rfl, w0⟩ := open_int Try.underlying3 (hval 0 3 v0 rfl rfl) h0
  obtain ⟨oa, ent, l, c, rfl, harg, hent, hbig, _⟩ := open_arg (enc' := encA) (G := fun _ => True) (sz := 4) Try.underlying22 (by kernel_rfl) (by omega) decA (hval 1 22 v1 rfl rfl) h1
  obtain ⟨many, rfl, rfl, rfl, w2⟩ := open_int Try.underlying3 (hval 2 3 v2 rfl rfl) h2
  have hcalls : Calls Try.prog 3 #[.int .i64 most, .slice oa l.length c, .int .i64 many] W fun e W' => e = .returned (.bool true) ∧ Below W.heap.size W W' := by
    have hb2 : l.length ≤ 2 ^ 63 - 1 := hbig
    by_cases h60 : 60 < l.length ∨ most < 1 ∨ 128 < most
    · exact Spec.row ((iterates_bad most many oa l.length c (by omega) h60).mono fun r H1 hp => ⟨hp.1, fun x hx => by cases hx⟩) (hok_nil W)
    obtain ⟨m, rfl⟩ := Int.eq_ofNat_of_zero_le (show 0 ≤ most by omega)
    exact Spec.row ((iterates_ok m (by omega) (by omega) oa ent l c harg (by omega) many).mono fun r H1 hp => ⟨hp.1, fun x hx => by rw [hp.2]; exact hx⟩) (hok_one hent)
  refine hcalls.mono fun e W' ⟨he, hb⟩ => ?_
  subst he
  exact ⟨_, rfl, law_post rowLaid rowMaps rowFull (by rw [Try.params3]; exact of_decide_eq_true (by kernel_rfl)) (by kernel_rfl) Try.underlying4 rfl hW' rfl hb⟩

/-- The given statement. -/
theorem slotIteratesProved : Rows.SlotIteratesSaid :=
  OpenClaim.holds_of_wide 3 Try.f3 rfl rfl rfl rfl rfl rfl rfl ⟨rfl, rfl, rfl, rfl, rfl⟩ rfl rfl rfl rfl rfl (by kernel_rfl) Try.func3 (by kernel_rfl)
    (of_decide_eq_true (by kernel_rfl)) (by unfold Func.isWrapper; first | (rw [if_pos (by decide +kernel)]; kernel_rfl) | (rw [if_neg (by decide +kernel)]; exact ⟨rfl, rfl⟩))
    (fun os started H enc _ => liftedSlotIterates os started H enc)
end Go.Proofs.Ytnolalkkdigcbaa
