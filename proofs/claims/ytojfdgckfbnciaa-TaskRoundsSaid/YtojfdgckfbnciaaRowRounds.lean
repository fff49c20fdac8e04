/-
  TaskRounds answers true at every input and leaves its arguments as they were. No condition is laid on the input.
-/
import Derived.Test.YtojfdgckfbnciaaRowBase
import Derived.Test.YtojfdgckfbnciaaRound
set_option linter.unusedVariables false
set_option maxRecDepth 20000
namespace Go.Proofs.Ytojfdgckfbnciaa

open Go.ChangeShapes Go.WideShapes Go.ChangeAt Go.RowKit Go.Joins Go.Deep

theorem hs_two {W : World} {e1 e2 : Ent} (h1 : e1.ok W) (h2 : e2.ok W) : ∃ Hs, HOK Hs W ∧ e1 ∈ Hs ∧ e2 ∈ Hs := by
  have hall : ∀ x ∈ [e1, e2], x.ok W := fun x hx => by
    simp only [List.mem_cons, List.not_mem_nil, or_false] at hx
    rcases hx with rfl | rfl
    · exact h1
    · exact h2
  obtain ⟨b1, o1⟩ := e1
  obtain ⟨b2, o2⟩ := e2
  cases b1 with
  | none => exact ⟨_, ⟨by cases b2 <;> simp [keys], hall⟩, List.mem_cons_self .., List.mem_cons_of_mem _ (List.mem_cons_self ..)⟩
  | some b1 =>
    cases b2 with
    | none => exact ⟨_, ⟨by simp [keys], hall⟩, List.mem_cons_self .., List.mem_cons_of_mem _ (List.mem_cons_self ..)⟩
    | some b2 =>
      by_cases e : b1 = b2
      · subst e
        have h3 : W.heap[b1]? = some o1 := h1
        have h4 : W.heap[b1]? = some o2 := h2
        rw [h3] at h4
        obtain rfl := Option.some.inj h4
        exact ⟨[⟨some b1, o1⟩], hok_one h1, List.mem_cons_self .., List.mem_cons_self ..⟩
      · exact ⟨_, ⟨by simp [keys, e], hall⟩, List.mem_cons_self .., List.mem_cons_of_mem _ (List.mem_cons_self ..)⟩
theorem decB {H : Type} {enc : TypeId × Value → H} {W : World} {sp : Nat → Bool} {held : Bool} (m : Nat) (cs : List Value) (y : DataW H × List MemPlace) (h : DataW.trod enc Try.prog W 0 sp held m 5 cs = some y) : ∃ x : Nat, cs = encB x ∧ x < 256 := by
  obtain ⟨n, rfl, _, hw⟩ := DataW.trod_int Try.underlying5 h
  obtain ⟨k, rfl, hk⟩ := wf_u8 hw
  exact ⟨k, rfl, hk⟩

set_option maxRecDepth 100000 in
theorem liftedTaskRounds (os : Os) (started : os.Started) (H : Type) (enc : TypeId × Value → H) :
    ReturnsInHanded {} Try.checked os 3 .any (Rows.taskRoundsSpec.pre6 enc Try.prog Try.f3 Rows.taskRoundsRow.domain false) (Rows.taskRoundsSpec.post enc Try.prog Try.f3 false true false false) := by
  refine returnsInHanded_of_change (C := Try.checked) rowOwn started (by kernel_rfl) Try.func3
    (ChangeSpec.witness6 (enc := enc) (C := Try.checked) false ⟨#[], #[.int .i64 0, .slice none 0 0, .slice none 0 0], []⟩ 8 (by kernel_rfl) (by kernel_rfl) (by kernel_rfl) (by kernel_rfl)) ?_
  intro W base args ds gs before hval0 hW hcnd _
  have hval : ∀ (j : Nat) t v, Try.f3.params[j]? = some t → args[j]? = some v → Value.okWide Try.prog W .any base t v := hval0
  have hW' := hW
  obtain ⟨p, q, hA0, hV, rfl, hfz, hnd⟩ := hW
  have hA : DataW.TrodAll enc Try.prog W 0 (fun _ => true) true Try.f3.params.toList args.toList ds p := hA0
  rw [Try.params3] at hA hval
  obtain ⟨v0, vs0, d0, ds0, p0, q0, hargs, rfl, rfl, h0, r0⟩ := trodAll_cons hA
  obtain ⟨v1, vs1, d1, ds1, p1, q1, rfl, rfl, rfl, h1, r1⟩ := trodAll_cons r0
  obtain ⟨v2, vs2, d2, ds2, p2, q2, rfl, rfl, rfl, h2, r2⟩ := trodAll_cons r1
  obtain ⟨rfl, rfl, rfl⟩ := trodAll_nil r2
  obtain rfl : args = #[v0, v1, v2] := by cases args; simp_all
  obtain ⟨m, rfl, rfl, rfl, w0⟩ := open_int Try.underlying3 (hval 0 3 v0 rfl rfl) h0
  obtain ⟨oa1, ent1, l1, c1, rfl, harg1, hent1, hbig1, hG1⟩ := open_arg (enc' := encB) (G := fun x => x < 256) (sz := 1) Try.underlying22 (by kernel_rfl) (by omega) (fun m cs y h => decB m cs y h) (hval 1 22 v1 rfl rfl) h1
  obtain ⟨oa2, ent2, l2, c2, rfl, harg2, hent2, hbig2, hG2⟩ := open_arg (enc' := encB) (G := fun x => x < 256) (sz := 1) Try.underlying22 (by kernel_rfl) (by omega) (fun m cs y h => decB m cs y h) (hval 2 22 v2 rfl rfl) h2
  have hcalls : Calls Try.prog 3 #[.int .i64 m, .slice oa1 l1.length c1, .slice oa2 l2.length c2] W fun e W' => e = .returned (.bool true) ∧ Below W.heap.size W W' := by
    have hb1 : l1.length ≤ 2 ^ 63 - 1 := hbig1
    have hb2 : l2.length ≤ 2 ^ 63 - 1 := hbig2
    by_cases h : m < 1 ∨ 64 < m ∨ 100 < l1.length ∨ 100 < l2.length
    · exact Spec.row ((rounds_bad m oa1 oa2 l1.length l2.length c1 c2 (by omega) (by omega) h).mono fun r H1 hp => ⟨hp.1, fun x hx => by cases hx⟩) (hok_nil W)
    obtain ⟨k, rfl⟩ := Int.eq_ofNat_of_zero_le (show 0 ≤ m by omega)
    obtain ⟨Hs, hok, hin1, hin2⟩ := hs_two hent1 hent2
    exact Spec.row ((rounds_ok k (by omega) (by omega) Hs oa1 oa2 ent1 ent2 l1 l2 c1 c2 harg1 harg2 hin1 hin2 hG1 hG2 (by omega) (by omega)).mono fun r H1 hp => ⟨hp.1, fun x hx => by rw [hp.2]; exact hx⟩) hok
  refine hcalls.mono fun e W' ⟨he, hb⟩ => ?_
  subst he
  exact ⟨_, rfl, law_post rowLaid rowMaps rowFull (by rw [Try.params3]; exact of_decide_eq_true (by kernel_rfl)) (by kernel_rfl) Try.underlying4 rfl hW' rfl hb⟩

/-- The given statement. -/
theorem taskRoundsProved : Rows.TaskRoundsSaid :=
  OpenClaim.holds_of_wide 3 Try.f3 rfl rfl rfl rfl rfl rfl rfl ⟨rfl, rfl, rfl, rfl, rfl⟩ rfl rfl rfl rfl rfl (by kernel_rfl) Try.func3 (by kernel_rfl)
    (of_decide_eq_true (by kernel_rfl)) (by unfold Func.isWrapper; first | (rw [if_pos (by decide +kernel)]; kernel_rfl) | (rw [if_neg (by decide +kernel)]; exact ⟨rfl, rfl⟩))
    (fun os started H enc _ => liftedTaskRounds os started H enc)
end Go.Proofs.Ytojfdgckfbnciaa
