/-
  BalancePlays answers true at every input and leaves its arguments as they were. No condition is laid on the input.
-/
import Derived.Test.YtiokpmgbabpikaaRowAct
import Derived.Test.YtiokpmgbabpikaaPlays
set_option linter.unusedVariables false
set_option maxRecDepth 20000
namespace Go.Proofs.Ytiokpmgbabpikaa

open Go.ChangeShapes Go.WideShapes Go.ChangeAt Go.RowKit Go.Joins Go.Deep

theorem decI {H : Type} {enc : TypeId × Value → H} {W : World} {sp : Nat → Bool} {held : Bool} (m : Nat) (cs : List Value) (y : DataW H × List MemPlace) (h : DataW.trod enc Try.prog W 0 sp held m 3 cs = some y) : ∃ x : Int, cs = encI x ∧ True := by
  obtain ⟨n, e, _, _⟩ := DataW.trod_int Try.underlying3 h
  exact ⟨n, e, trivial⟩

theorem two_or {W : World} {e1 e2 : Ent} (h1 : e1.ok W) (h2 : e2.ok W) : HOK [e1, e2] W ∨ e1 = e2 := by
  have hall : ∀ x ∈ [e1, e2], x.ok W := fun x hx => by
    simp only [List.mem_cons, List.not_mem_nil, or_false] at hx
    rcases hx with rfl | rfl
    · exact h1
    · exact h2
  obtain ⟨b1, o1⟩ := e1
  obtain ⟨b2, o2⟩ := e2
  cases b1 with
  | none => exact .inl ⟨by cases b2 <;> simp [keys], hall⟩
  | some b1 =>
    cases b2 with
    | none => exact .inl ⟨by simp [keys], hall⟩
    | some b2 =>
      by_cases e : b1 = b2
      · subst e
        have h3 : W.heap[b1]? = some o1 := h1
        have h4 : W.heap[b1]? = some o2 := h2
        rw [h3] at h4
        obtain rfl := Option.some.inj h4
        exact .inr rfl
      · exact .inl ⟨by simp [keys, e], hall⟩
theorem decP {H : Type} {enc : TypeId × Value → H} {W : World} {sp : Nat → Bool} {held : Bool} (m : Nat) (cs : List Value) (y : DataW H × List MemPlace) (h : DataW.trod enc Try.prog W 0 sp held m 48 cs = some y) : ∃ x : PA, cs = encP x ∧ x.now ≤ 18446744073709551615 := by
  obtain ⟨wt, n, now9, key, good, rfl, _, _, wc, _⟩ := decA m cs y h
  obtain ⟨now, rfl, hnow⟩ := wf_u64 wc
  exact ⟨⟨wt, n, now, key, good⟩, rfl, by dsimp only; omega⟩

set_option maxRecDepth 100000 in
theorem liftedBalancePlays (os : Os) (started : os.Started) (H : Type) (enc : TypeId × Value → H) :
    ReturnsInHanded {} Try.checked os 5 .any (Rows.balancePlaysSpec.pre6 enc Try.prog Try.f5 Rows.balancePlaysRow.domain false) (Rows.balancePlaysSpec.post enc Try.prog Try.f5 false true false false) := by
  refine returnsInHanded_of_change (C := Try.checked) rowOwn started (by kernel_rfl) Try.func5
    (ChangeSpec.witness6 (enc := enc) (C := Try.checked) false ⟨#[], #[.int .i64 0, .slice none 0 0, .int .i64 0, .int .u64 0, .slice none 0 0], []⟩ 8 (by kernel_rfl) (by kernel_rfl) (by kernel_rfl) (by kernel_rfl)) ?_
  intro W base args ds gs before hval0 hW hcnd _
  have hval : ∀ (j : Nat) t v, Try.f5.params[j]? = some t → args[j]? = some v → Value.okWide Try.prog W .any base t v := hval0
  have hW' := hW
  obtain ⟨p, q, hA0, hV, rfl, hfz, hnd⟩ := hW
  have hA : DataW.TrodAll enc Try.prog W 0 (fun _ => true) true Try.f5.params.toList args.toList ds p := hA0
  rw [Try.params5] at hA hval
  obtain ⟨v0, vs0, d0, ds0, p0, q0, hargs, rfl, rfl, h0, r0⟩ := trodAll_cons hA
  obtain ⟨v1, vs1, d1, ds1, p1, q1, rfl, rfl, rfl, h1, r1⟩ := trodAll_cons r0
  obtain ⟨v2, vs2, d2, ds2, p2, q2, rfl, rfl, rfl, h2, r2⟩ := trodAll_cons r1
  obtain ⟨v3, vs3, d3, ds3, p3, q3, rfl, rfl, rfl, h3, r3⟩ := trodAll_cons r2
  obtain ⟨v4, vs4, d4, ds4, p4, q4, rfl, rfl, rfl, h4, r4⟩ := trodAll_cons r3
  obtain ⟨rfl, rfl, rfl⟩ := trodAll_nil r4
  obtain rfl : args = #[v0, v1, v2, v3, v4] := by cases args; simp_all
  obtain ⟨k, rfl, rfl, rfl, w0⟩ := open_int Try.underlying28 (hval 0 28 v0 rfl rfl) h0
  obtain ⟨oa1, ent1, l1, c1, rfl, harg1, hent1, hbig1, hG1⟩ := open_arg (enc' := encI) (G := fun _ => True) (sz := 1) Try.underlying26 (by kernel_rfl) (by omega) (fun m cs y h => decI m cs y h) (hval 1 26 v1 rfl rfl) h1
  obtain ⟨limit, rfl, rfl, rfl, w2⟩ := open_int Try.underlying3 (hval 2 3 v2 rfl rfl) h2
  obtain ⟨op9, rfl, rfl, rfl, w3⟩ := open_int Try.underlying30 (hval 3 30 v3 rfl rfl) h3
  obtain ⟨oa4, ent4, l4, c4, rfl, harg4, hent4, hbig4, hG4⟩ := open_arg (enc' := encP) (G := fun a => a.now ≤ 18446744073709551615) (sz := 5) Try.underlying41 (by kernel_rfl) (by omega) (fun m cs y h => decP m cs y h) (hval 4 41 v4 rfl rfl) h4
  obtain ⟨op, rfl, hop⟩ := wf_u64 w3
  have hcalls : Calls Try.prog 5 #[.int .i64 k, .slice oa1 l1.length c1, .int .i64 limit, .int .u64 (op : Int), .slice oa4 l4.length c4] W fun e W' => e = .returned (.bool true) ∧ Below W.heap.size W W' := by
    have hb1 : l1.length ≤ 2 ^ 63 - 1 := hbig1
    have hb4 : l4.length ≤ 2 ^ 63 - 1 := hbig4
    by_cases h : 70 < l1.length ∨ 40 < l4.length
    · exact Spec.row ((plays_big k l1 oa1 c1 ent1 (Rd.arg harg1) limit op l4 oa4 c4 h).mono fun r H1 hp => ⟨hp.1, fun x hx => by cases hx⟩) (hok_nil W)
    by_cases hv : VOk k l1 limit op
    · obtain ⟨k, rfl⟩ := Int.eq_ofNat_of_zero_le (show 0 ≤ k by have := hv.1; omega)
      rcases two_or hent1 hent4 with hh | hh
      · exact Spec.row ((plays_two k l1 oa1 c1 ent1 (Rd.arg harg1) limit op l4 oa4 c4 ent4 harg4 hG4 (by omega) (by omega) hv).mono fun r H1 hp => ⟨hp.1, fun x hx => by rw [hp.2]; exact hx⟩) hh
      · subst hh
        exact Spec.row ((plays_one k l1 oa1 c1 ent1 (Rd.arg harg1) limit op l4 oa4 c4 harg4 hG4 (by omega) (by omega) hv).mono fun r H1 hp => ⟨hp.1, fun x hx => by rw [hp.2]; exact hx⟩) (hok_one hent1)
    exact Spec.row ((plays_bad k l1 oa1 c1 ent1 (Rd.arg harg1) limit op l4 oa4 c4 (by omega) (by omega) hv).mono fun r H1 hp => ⟨hp.1, fun x hx => by rw [hp.2]; exact hx⟩) (hok_one hent1)
  refine hcalls.mono fun e W' ⟨he, hb⟩ => ?_
  subst he
  exact ⟨_, rfl, law_post rowLaid rowMaps rowFull (by rw [Try.params5]; exact of_decide_eq_true (by kernel_rfl)) (by kernel_rfl) Try.underlying4 rfl hW' rfl hb⟩

/-- The given statement. -/
theorem balancePlaysProved : Rows.BalancePlaysSaid :=
  OpenClaim.holds_of_wide 5 Try.f5 rfl rfl rfl rfl rfl rfl rfl ⟨rfl, rfl, rfl, rfl, rfl⟩ rfl rfl rfl rfl rfl (by kernel_rfl) Try.func5 (by kernel_rfl)
    (of_decide_eq_true (by kernel_rfl)) (by unfold Func.isWrapper; first | (rw [if_pos (by decide +kernel)]; kernel_rfl) | (rw [if_neg (by decide +kernel)]; exact ⟨rfl, rfl⟩))
    (fun os started H enc _ => liftedBalancePlays os started H enc)
end Go.Proofs.Ytiokpmgbabpikaa
