/-
  TimerResets answers true at every input and leaves its arguments as they were. No condition is laid on the input.
-/
import Derived.Test.YtbaagjiailmlhaaRowBase
import Derived.Test.YtbaagjiailmlhaaRes
set_option linter.unusedVariables false
set_option maxRecDepth 20000
namespace Go.Proofs.Ytbaagjiailmlhaa

open Go.ChangeShapes Go.WideShapes Go.ChangeAt Go.RowKit Go.Joins Go.Deep

theorem decT {H : Type} {enc : TypeId × Value → H} {W : World} {sp : Nat → Bool} {held : Bool} (m : Nat) (cs : List Value) (y : DataW H × List MemPlace) (h : DataW.trod enc Try.prog W 0 sp held m 31 cs = some y) : ∃ x : Nat, cs = encT x ∧ x ≤ 18446744073709551615 := by
  obtain ⟨n, rfl, _, hw⟩ := DataW.trod_int Try.underlying31 h
  obtain ⟨k, rfl, hk⟩ := wf_u64 hw
  exact ⟨k, rfl, hk⟩

set_option maxRecDepth 100000 in
theorem liftedTimerResets (os : Os) (started : os.Started) (H : Type) (enc : TypeId × Value → H) :
    ReturnsInHanded {} Try.checked os 4 .any (Rows.timerResetsSpec.pre6 enc Try.prog Try.f4 Rows.timerResetsRow.domain false) (Rows.timerResetsSpec.post enc Try.prog Try.f4 false true false false) := by
  refine returnsInHanded_of_change (C := Try.checked) rowOwn started (by kernel_rfl) Try.func4
    (ChangeSpec.witness6 (enc := enc) (C := Try.checked) false ⟨#[], #[.slice none 0 0, .int .u64 0], []⟩ 8 (by kernel_rfl) (by kernel_rfl) (by kernel_rfl) (by kernel_rfl)) ?_
  intro W base args ds gs before hval0 hW hcnd _
  have hval : ∀ (j : Nat) t v, Try.f4.params[j]? = some t → args[j]? = some v → Value.okWide Try.prog W .any base t v := hval0
  have hW' := hW
  obtain ⟨p, q, hA0, hV, rfl, hfz, hnd⟩ := hW
  have hA : DataW.TrodAll enc Try.prog W 0 (fun _ => true) true Try.f4.params.toList args.toList ds p := hA0
  rw [Try.params4] at hA hval
  obtain ⟨v0, vs0, d0, ds0, p0, q0, hargs, rfl, rfl, h0, r0⟩ := trodAll_cons hA
  obtain ⟨v1, vs1, d1, ds1, p1, q1, rfl, rfl, rfl, h1, r1⟩ := trodAll_cons r0
  obtain ⟨rfl, rfl, rfl⟩ := trodAll_nil r1
  obtain rfl : args = #[v0, v1] := by cases args; simp_all
  obtain ⟨oa0, ent0, l0, c0, rfl, harg0, hent0, hbig0, hG0⟩ := open_arg (enc' := encT) (G := fun x => x ≤ 18446744073709551615) (sz := 1) Try.underlying37 (by kernel_rfl) (by omega) (fun m cs y h => decT m cs y h) (hval 0 37 v0 rfl rfl) h0
  obtain ⟨u1, rfl, rfl, rfl, w1⟩ := open_int Try.underlying31 (hval 1 31 v1 rfl rfl) h1
  obtain ⟨o1, rfl, ho1⟩ := wf_u64 w1
  have hcalls : Calls Try.prog 4 #[.slice oa0 l0.length c0, .int .u64 o1] W fun e W' => e = .returned (.bool true) ∧ Below W.heap.size W W' := by
    have hb1 : l0.length ≤ 2 ^ 63 - 1 := hbig0
    by_cases h : 60 < l0.length ∨ (o1 : Int) = 18446744073709551615
    · exact Spec.row ((resets_bad oa0 l0.length c0 (by omega) o1 h).mono fun r H1 hp => ⟨hp.1, fun x hx => by cases hx⟩) (hok_nil W)
    exact Spec.row ((resets_ok o1 (by omega) oa0 ent0 l0 c0 harg0 hG0 (by omega)).mono fun r H1 hp => ⟨hp.1, fun x hx => by rw [hp.2]; exact hx⟩) (hok_one hent0)
  refine hcalls.mono fun e W' ⟨he, hb⟩ => ?_
  subst he
  exact ⟨_, rfl, law_post rowLaid rowMaps rowFull (by rw [Try.params4]; exact of_decide_eq_true (by kernel_rfl)) (by kernel_rfl) Try.underlying4 rfl hW' rfl hb⟩

/-- The given statement. -/
theorem timerResetsProved : Rows.TimerResetsSaid :=
  OpenClaim.holds_of_wide 4 Try.f4 rfl rfl rfl rfl rfl rfl rfl ⟨rfl, rfl, rfl, rfl, rfl⟩ rfl rfl rfl rfl rfl (by kernel_rfl) Try.func4 (by kernel_rfl)
    (of_decide_eq_true (by kernel_rfl)) (by unfold Func.isWrapper; first | (rw [if_pos (by decide +kernel)]; kernel_rfl) | (rw [if_neg (by decide +kernel)]; exact ⟨rfl, rfl⟩))
    (fun os started H enc _ => liftedTimerResets os started H enc)
end Go.Proofs.Ytbaagjiailmlhaa
