/-
  A scope through which the run goes without a goto.
-/
import Derived.Test.YteofigbgdbpjgaaZA
namespace Go.Proofs.Yteofigbgdbpjgaa
section
variable {P : Program} {b : Frame} {a : Act} {k : List Item} {cs : List Frame} {w : World}
theorem stepR_scope {c : Code} : step P (lone (b.atR a (.code (.scope c) :: k)) cs w) = .next (lone (b.atR a (.code c :: .inScope c :: k)) cs w) :=
  step_lone_go (by simp [stepG, stepG.exec, Frame.atR])
theorem stepR_inScope {c : Code} : step P (lone (b.atR a (.inScope c :: k)) cs w) = .next (lone (b.atR a k) cs w) :=
  step_lone_go (by simp [stepG, stepG.exec, Frame.atR])
end
theorem WC_scope {X : Ctx} {p : Post} {E : Env} {H : Heap} {c : Code} (h : WC X c p E H) : WC X (.scope c) p E H := by
  intro a w ha hw b k cs hro hb hr
  have h0 : (lone (b.atR a (.code (.scope c) :: k)) cs w).fenced X.P (fen X.ro) := fenced_calm hb hr rfl
  obtain ⟨e, a₁, w₁, hq, harr⟩ := h a w ha hw b (.inScope c :: k) cs hro hb hr
  cases e with
  | normal => exact ⟨.normal, a₁, w₁, hq, .head h0 stepR_scope (StepsIn.trans harr (.one (fenced_calm hb hr rfl) stepR_inScope))⟩
  | exit id =>
    have hx : exitTo id (.inScope c :: k) = exitTo id k := by simp [exitTo]
    exact ⟨.exit id, a₁, w₁, hq, fun k' hk => .head h0 stepR_scope (harr.1 k' (by rw [hx]; exact hk)),
      fun hr' hk => let ⟨k₁, h1, h2⟩ := harr.2 hr' (by rw [hx]; exact hk); ⟨k₁, h1, .head h0 stepR_scope h2⟩⟩
  | goto l => exact hq.elim
  | ret => exact ⟨_, a₁, w₁, hq, .of_steps (.one h0 stepR_scope) harr⟩
  | panic ch => exact ⟨_, a₁, w₁, hq, .of_steps (.one h0 stepR_scope) harr⟩
  | outgrown => exact ⟨_, a₁, w₁, hq, .of_steps (.one h0 stepR_scope) harr⟩
/-- An operation that turns something and is not wanted. -/
theorem WM_skipF {X : Ctx} {ops : Array Oper} {p : Post} {Hq : Heap} {E : Env} {H F : Heap} {r : List (Nat × Bool)} {i : Nat} {o : Oper} {d : Nat} (ho : ops[i]? = some o) (hg : wantedE ops E o = some false) (hd : o.dst = some d) (hN : Nat.blt d X.N = true)
    (hq : Pulls Hq H F) (k : WM X ops p Hq r ((d, undef) :: E) H) : WM X ops p Hq ((i, false) :: r) E H := by
  intro a w ha hw
  simp only [MW, wpOpIn, ho, wantedE_spec ha hg, Bool.false_eq_true, if_false]
  exact ⟨about_true, (hw.perm hq.perm).left, fun w'' hb => k _ _ (by rw [hd]; exact ha.put d undef hN) (hw.bel hb)⟩
end Go.Proofs.Yteofigbgdbpjgaa
