/-
  TimerPlays answers true at every input and leaves its arguments as they were. No condition is laid on the input.
-/
import Derived.Test.YtbaagjiailmlhaaRowBase
import Derived.Test.YtbaagjiailmlhaaPlays
set_option linter.unusedVariables false
set_option maxRecDepth 20000
namespace Go.Proofs.Ytbaagjiailmlhaa

open Go.ChangeShapes Go.WideShapes Go.ChangeAt Go.RowKit Go.Joins Go.Deep
theorem decA {H : Type} {enc : TypeId × Value → H} {W : World} {sp : Nat → Bool} {held : Bool} (m : Nat) (cs : List Value) (y : DataW H × List MemPlace) (h : DataW.trod enc Try.prog W 0 sp held m 48 cs = some y) :
    ∃ (x0 : Int) (x1 : Int) (x2 : Int) (x3 : Int) (x4 : Int), cs = [.int .i64 x0, .int .i64 x1, .int .u64 x2, .int .i64 x3, .int .i64 x4] ∧ (Lit.int .i64 x0).wf = true ∧ (Lit.int .i64 x1).wf = true ∧ (Lit.int .u64 x2).wf = true ∧ (Lit.int .i64 x3).wf = true ∧ (Lit.int .i64 x4).wf = true ∧ True := by
  have hl : cs.length = 5 := (trod_len Try.underlying48 h).trans (by kernel_rfl)
  have s3 : Try.prog.cellsOf 3 = 1 := by kernel_rfl
  have s26 : Try.prog.cellsOf 26 = 2 := by kernel_rfl
  have s31 : Try.prog.cellsOf 31 = 1 := by kernel_rfl
  obtain ⟨ng0, yg0, g0⟩ := trod_fld Try.underlying48 h (i := 0) rfl
  obtain ⟨x0, e0, _, w0⟩ := DataW.trod_int Try.underlying3 g0
  have e0 : (cs.drop 0).take (Try.prog.cellsOf 3) = [.int .i64 x0] := e0
  simp only [s3] at e0
  have k0 : cs.drop 0 = .int .i64 x0 :: cs.drop 1 := drop_cons e0
  obtain ⟨ng1, yg1, g1⟩ := trod_fld Try.underlying48 h (i := 1) rfl
  obtain ⟨x1, e1, _, w1⟩ := DataW.trod_int Try.underlying3 g1
  have e1 : (cs.drop 1).take (Try.prog.cellsOf 3) = [.int .i64 x1] := e1
  simp only [s3] at e1
  have k1 : cs.drop 1 = .int .i64 x1 :: cs.drop 2 := drop_cons e1
  obtain ⟨ng2, yg2, g2⟩ := trod_fld Try.underlying48 h (i := 2) rfl
  obtain ⟨x2, e2, _, w2⟩ := DataW.trod_int Try.underlying31 g2
  have e2 : (cs.drop 2).take (Try.prog.cellsOf 31) = [.int .u64 x2] := e2
  simp only [s31] at e2
  have k2 : cs.drop 2 = .int .u64 x2 :: cs.drop 3 := drop_cons e2
  obtain ⟨ng3, yg3, g3⟩ := trod_fld Try.underlying48 h (i := 3) rfl
  obtain ⟨ng3_0, yg3_0, g3_0⟩ := trod_fld Try.underlying26 g3 (i := 0) rfl
  obtain ⟨x3, e3, _, w3⟩ := DataW.trod_int Try.underlying3 g3_0
  have e3 : (((cs.drop 3).take (Try.prog.cellsOf 26)).drop 0).take (Try.prog.cellsOf 3) = [.int .i64 x3] := e3
  simp only [s3, s26] at e3
  rw [sub_at cs 3 2 0 1 (by decide)] at e3
  have k3 : cs.drop 3 = .int .i64 x3 :: cs.drop 4 := drop_cons e3
  obtain ⟨ng3_1, yg3_1, g3_1⟩ := trod_fld Try.underlying26 g3 (i := 1) rfl
  obtain ⟨x4, e4, _, w4⟩ := DataW.trod_int Try.underlying3 g3_1
  have e4 : (((cs.drop 3).take (Try.prog.cellsOf 26)).drop 1).take (Try.prog.cellsOf 3) = [.int .i64 x4] := e4
  simp only [s3, s26] at e4
  rw [sub_at cs 3 2 1 1 (by decide)] at e4
  have k4 : cs.drop 4 = .int .i64 x4 :: cs.drop 5 := drop_cons e4
  exact ⟨x0, x1, x2, x3, x4, (List.drop_zero (l := cs)).symm.trans (k0.trans (congrArg (List.cons _) (k1.trans (congrArg (List.cons _) (k2.trans (congrArg (List.cons _) (k3.trans (congrArg (List.cons _) (k4.trans (congrArg (List.cons _) (List.drop_eq_nil_of_le (by omega)))))))))))), w0, w1, w2, w3, w4, trivial⟩
theorem decA2 {H : Type} {enc : TypeId × Value → H} {W : World} {sp : Nat → Bool} {held : Bool} (m : Nat) (cs : List Value) (y : DataW H × List MemPlace) (h : DataW.trod enc Try.prog W 0 sp held m 48 cs = some y) : ∃ x : Ac, cs = encA x ∧ OkA x := by
  obtain ⟨a, b, t, n, g, rfl, _, _, w2, _, w4, _⟩ := decA m cs y h
  obtain ⟨k, rfl, hk⟩ := wf_u64 w2
  exact ⟨⟨a, b, k, n, g⟩, rfl, hk, wf_i64 w4⟩

set_option maxRecDepth 100000 in
theorem liftedTimerPlays (os : Os) (started : os.Started) (H : Type) (enc : TypeId × Value → H) :
    ReturnsInHanded {} Try.checked os 6 .any (Rows.timerPlaysSpec.pre6 enc Try.prog Try.f6 Rows.timerPlaysRow.domain false) (Rows.timerPlaysSpec.post enc Try.prog Try.f6 false true false false) := by
  refine returnsInHanded_of_change (C := Try.checked) rowOwn started (by kernel_rfl) Try.func6
    (ChangeSpec.witness6 (enc := enc) (C := Try.checked) false ⟨#[], #[.slice none 0 0], []⟩ 8 (by kernel_rfl) (by kernel_rfl) (by kernel_rfl) (by kernel_rfl)) ?_
  intro W base args ds gs before hval0 hW hcnd _
  have hval : ∀ (j : Nat) t v, Try.f6.params[j]? = some t → args[j]? = some v → Value.okWide Try.prog W .any base t v := hval0
  have hW' := hW
  obtain ⟨p, q, hA0, hV, rfl, hfz, hnd⟩ := hW
  have hA : DataW.TrodAll enc Try.prog W 0 (fun _ => true) true Try.f6.params.toList args.toList ds p := hA0
  rw [Try.params6] at hA hval
  obtain ⟨v0, vs0, d0, ds0, p0, q0, hargs, rfl, rfl, h0, r0⟩ := trodAll_cons hA
  obtain ⟨rfl, rfl, rfl⟩ := trodAll_nil r0
  obtain rfl : args = #[v0] := by cases args; simp_all
  obtain ⟨oa0, ent0, l0, c0, rfl, harg0, hent0, hbig0, hG0⟩ := open_arg (enc' := encA) (G := OkA) (sz := 5) Try.underlying45 (by kernel_rfl) (by omega) (fun m cs y h => decA2 m cs y h) (hval 0 45 v0 rfl rfl) h0
  have hcalls : Calls Try.prog 6 #[.slice oa0 l0.length c0] W fun e W' => e = .returned (.bool true) ∧ Below W.heap.size W W' := by
    have hb1 : l0.length ≤ 2 ^ 63 - 1 := hbig0
    by_cases h : 60 < l0.length
    · exact Spec.row ((plays_long oa0 l0.length c0 (by omega) h).mono fun r H1 hp => ⟨hp.1, fun x hx => by cases hx⟩) (hok_nil W)
    exact Spec.row ((plays_ok oa0 ent0 l0 c0 harg0 hG0 (by omega)).mono fun r H1 hp => ⟨hp.1, fun x hx => by rw [hp.2]; exact hx⟩) (hok_one hent0)
  refine hcalls.mono fun e W' ⟨he, hb⟩ => ?_
  subst he
  exact ⟨_, rfl, law_post rowLaid rowMaps rowFull (by rw [Try.params6]; exact of_decide_eq_true (by kernel_rfl)) (by kernel_rfl) Try.underlying4 rfl hW' rfl hb⟩

/-- The given statement. -/
theorem timerPlaysProved : Rows.TimerPlaysSaid :=
  OpenClaim.holds_of_wide 6 Try.f6 rfl rfl rfl rfl rfl rfl rfl ⟨rfl, rfl, rfl, rfl, rfl⟩ rfl rfl rfl rfl rfl (by kernel_rfl) Try.func6 (by kernel_rfl)
    (of_decide_eq_true (by kernel_rfl)) (by unfold Func.isWrapper; first | (rw [if_pos (by decide +kernel)]; kernel_rfl) | (rw [if_neg (by decide +kernel)]; exact ⟨rfl, rfl⟩))
    (fun os started H enc _ => liftedTimerPlays os started H enc)
end Go.Proofs.Ytbaagjiailmlhaa
