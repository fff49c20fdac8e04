/-
  BalanceHolds answers true at every input and leaves its arguments as they were. No condition is laid on the input.
-/
import Derived.Test.YtiokpmgbabpikaaRowBase
import Derived.Test.YtiokpmgbabpikaaHold
set_option linter.unusedVariables false
set_option maxRecDepth 20000
namespace Go.Proofs.Ytiokpmgbabpikaa

open Go.ChangeShapes Go.WideShapes Go.ChangeAt Go.RowKit Go.Joins Go.Deep

theorem decI {H : Type} {enc : TypeId × Value → H} {W : World} {sp : Nat → Bool} {held : Bool} (m : Nat) (cs : List Value) (y : DataW H × List MemPlace) (h : DataW.trod enc Try.prog W 0 sp held m 3 cs = some y) : ∃ x : Int, cs = encI x ∧ True := by
  obtain ⟨n, e, _, _⟩ := DataW.trod_int Try.underlying3 h
  exact ⟨n, e, trivial⟩

set_option maxRecDepth 100000 in
theorem liftedBalanceHolds (os : Os) (started : os.Started) (H : Type) (enc : TypeId × Value → H) :
    ReturnsInHanded {} Try.checked os 4 .any (Rows.balanceHoldsSpec.pre6 enc Try.prog Try.f4 Rows.balanceHoldsRow.domain false) (Rows.balanceHoldsSpec.post enc Try.prog Try.f4 false true false false) := by
  refine returnsInHanded_of_change (C := Try.checked) rowOwn started (by kernel_rfl) Try.func4
    (ChangeSpec.witness6 (enc := enc) (C := Try.checked) false ⟨#[], #[.slice none 0 0, .int .u8 0, .string ⟨#[]⟩, .int .u8 0], []⟩ 8 (by kernel_rfl) (by kernel_rfl) (by kernel_rfl) (by kernel_rfl)) ?_
  intro W base args ds gs before hval0 hW hcnd _
  have hval : ∀ (j : Nat) t v, Try.f4.params[j]? = some t → args[j]? = some v → Value.okWide Try.prog W .any base t v := hval0
  have hW' := hW
  obtain ⟨p, q, hA0, hV, rfl, hfz, hnd⟩ := hW
  have hA : DataW.TrodAll enc Try.prog W 0 (fun _ => true) true Try.f4.params.toList args.toList ds p := hA0
  rw [Try.params4] at hA hval
  obtain ⟨v0, vs0, d0, ds0, p0, q0, hargs, rfl, rfl, h0, r0⟩ := trodAll_cons hA
  obtain ⟨v1, vs1, d1, ds1, p1, q1, rfl, rfl, rfl, h1, r1⟩ := trodAll_cons r0
  obtain ⟨v2, vs2, d2, ds2, p2, q2, rfl, rfl, rfl, h2, r2⟩ := trodAll_cons r1
  obtain ⟨v3, vs3, d3, ds3, p3, q3, rfl, rfl, rfl, h3, r3⟩ := trodAll_cons r2
  obtain ⟨rfl, rfl, rfl⟩ := trodAll_nil r3
  obtain rfl : args = #[v0, v1, v2, v3] := by cases args; simp_all
  obtain ⟨oa0, ent0, l0, c0, rfl, harg0, hent0, hbig0, hG0⟩ := open_arg (enc' := encI) (G := fun _ => True) (sz := 1) Try.underlying26 (by kernel_rfl) (by omega) (fun m cs y h => decI m cs y h) (hval 0 26 v0 rfl rfl) h0
  obtain ⟨rd9, rfl, rfl, rfl, w1⟩ := open_int Try.underlying5 (hval 1 5 v1 rfl rfl) h1
  obtain ⟨key, rfl, rfl, rfl, w2⟩ := open_str Try.underlying9 (hval 2 9 v2 rfl rfl) h2
  obtain ⟨ou9, rfl, rfl, rfl, w3⟩ := open_int Try.underlying5 (hval 3 5 v3 rfl rfl) h3
  obtain ⟨rd, rfl, hrd⟩ := wf_u8 w1
  obtain ⟨ou, rfl, hou⟩ := wf_u8 w3
  have hcalls : Calls Try.prog 4 #[.slice oa0 l0.length c0, .int .u8 (rd : Int), .string key, .int .u8 (ou : Int)] W fun e W' => e = .returned (.bool true) ∧ Below W.heap.size W W' := by
    have hb0 : l0.length ≤ 2 ^ 63 - 1 := hbig0
    have hs0 : key.size ≤ 2 ^ 63 - 1 := w2
    by_cases h : l0.length ≤ 8 ∧ VOk 1 l0 1 1 ∧ rd ≤ 3 ∧ key.size ≤ 64
    · exact Spec.row ((holds_ok l0 oa0 c0 ent0 (Rd.arg harg0) rd key ou hou h.1 h.2.1 h.2.2.1 h.2.2.2).mono fun r H1 hp => ⟨hp.1, fun x hx => by rw [hp.2]; exact hx⟩) (hok_one hent0)
    exact Spec.row ((holds_bad l0 oa0 c0 ent0 (Rd.arg harg0) rd key ou (by omega) (by omega) h).mono fun r H1 hp => ⟨hp.1, fun x hx => by rw [hp.2]; exact hx⟩) (hok_one hent0)
  refine hcalls.mono fun e W' ⟨he, hb⟩ => ?_
  subst he
  exact ⟨_, rfl, law_post rowLaid rowMaps rowFull (by rw [Try.params4]; exact of_decide_eq_true (by kernel_rfl)) (by kernel_rfl) Try.underlying4 rfl hW' rfl hb⟩

/-- The given statement. -/
theorem balanceHoldsProved : Rows.BalanceHoldsSaid :=
  OpenClaim.holds_of_wide 4 Try.f4 rfl rfl rfl rfl rfl rfl rfl ⟨rfl, rfl, rfl, rfl, rfl⟩ rfl rfl rfl rfl rfl (by kernel_rfl) Try.func4 (by kernel_rfl)
    (of_decide_eq_true (by kernel_rfl)) (by unfold Func.isWrapper; first | (rw [if_pos (by decide +kernel)]; kernel_rfl) | (rw [if_neg (by decide +kernel)]; exact ⟨rfl, rfl⟩))
    (fun os started H enc _ => liftedBalanceHolds os started H enc)
end Go.Proofs.Ytiokpmgbabpikaa
