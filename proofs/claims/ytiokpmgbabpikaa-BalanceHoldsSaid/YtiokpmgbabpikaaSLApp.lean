/-
  An append of a slice that may be nil.
-/
import Derived.Test.YtiokpmgbabpikaaSLPhase
namespace Go.Proofs.Ytiokpmgbabpikaa
section
variable {X : Ctx} {E : Env} {H : Heap} {o : Oper}
theorem Own.void' {n c sz : Nat} {xs tl : List Value} (h : Own none n c sz xs tl) : n = 0 ∧ c = 0 ∧ xs = [] ∧ tl = [] := by
  have h1 := h.nil rfl
  have h2 := h.le
  have h3 := h.cap
  rw [h1, Nat.zero_mul] at h3
  exact ⟨by omega, h1, List.eq_nil_of_length_eq_zero (by omega), List.eq_nil_of_length_eq_zero (by omega)⟩
theorem run_append_nothing {P : Program} {t ty e : TypeId} {sz bytes n c : Nat} {zs : List Value} {ob : Option Nat} (hs : SI P t e sz bytes zs) (hle : n ≤ c) (w : World) :
    (Builtin.append_ #[t, t] ty #[slV ob n c, slV none 0 0]).run P w = .ok (slV ob n c) w := by
  obtain ⟨g1, i, z, g2, g3, g4, g5, g6, g7, g8⟩ := hs
  cases ob <;> simp [Builtin.append_, slV, run_underlying g1, sizeOf, typeInfo, g2, Builtin.lenOf, Builtin.firstCells, hle, storeCells]
/-- append(x, y...) where y may be nil. -/
theorem D_appendO {t e e2 : TypeId} {sz bytes n c m mc : Nat} {zs xs tl news ty : List Value} {ob oy : Option Nat} {x y : Operand} {F : Heap}
    (ho : o.op = .call { callee := .builtin .append, args := #[x, y], argTypes := #[t, t] }) (hs : SI X.P t e sz bytes zs) (hx : ev E x = some (slV ob n c)) (hown : Own ob n c sz xs tl) (hp : Pull ⟨ob, cl (xs ++ tl) e⟩ H F)
    (hy : ev E y = some (slV oy m mc)) (hown2 : Own oy m mc sz news ty) (hm : (⟨oy, cl (news ++ ty) e2⟩ : Ent) ∈ H) (h1 : news.all Value.oneCell' = true) (hroom : (n + m) * bytes ≤ 140737488355328) (h63 : n + m ≤ 9223372036854775807) :
    Does X o E H (fun v H' => ∃ ob' c' tl', v = slV ob' (n + m) c' ∧ Own ob' (n + m) c' sz (xs ++ news) tl' ∧ H' = ⟨ob', cl (xs ++ news ++ tl') e⟩ :: F) := by
  cases oy with
  | some b2 => exact D_append ho hs hx hown hp hy hm (fun j v hj => by rw [Nat.zero_add, List.getElem?_append_left (List.getElem?_eq_some_iff.1 hj).1]; exact hj : At (news ++ ty) 0 news) hown2.len h1 hroom h63
  | none =>
    obtain ⟨rfl, rfl, rfl, rfl⟩ := hown2.void'
    intro a w ha hw next Q kk
    refine ⟨about_true, ?_⟩
    rw [semAt_of (by rw [ho]; intro c e; cases e)]
    have hr := run_append_nothing (ty := o.type) (ob := ob) hs hown.le w
    have hexec : (execOp a.eval o).run X.P w = .ok (.value (slV ob n c)) w := by
      simp [execOp, ho, resolve, ha.eval hx, ha.eval hy, invoke, builtin, hr]
    rw [hexec]
    exact kk _ _ _ ⟨ob, c, tl, rfl, by rw [List.append_nil]; exact hown, rfl⟩ (by rw [List.append_nil]; exact hw.perm hp.perm)
end
end Go.Proofs.Ytiokpmgbabpikaa
