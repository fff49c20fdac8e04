/-
  Slice expressions.
-/
import Derived.Test.YtiokpmgbabpikaaSLArray
namespace Go.Proofs.Ytiokpmgbabpikaa
section
variable {X : Ctx} {E : Env} {H : Heap} {o : Oper}
theorem addr_add0 (ad : Addr) : ad.add 0 = ad := by cases ad; simp [Addr.add]
/-- x[:h] of a slice. -/
theorem R_sliceTo {t u : TypeId} {x y : Operand} {ad : Option Addr} {n c sz m : Nat} {kk : IntKind} (ho : o.op = .slice t x none (some y) none) (hu : X.P.underlying t = some (.slice u)) (hs : ∀ w, (sizeOf u).run X.P w = .ok sz w)
    (hx : ev E x = some (.slice ad n c)) (hy : ev E y = some (.int kk (m : Int))) (hm : m ≤ c) : Runs X o E H (.slice ad m c) :=
  ⟨(by rw [ho]; intro c e; cases e), fun a w ha _ => by
    simp [execOp, ho, ha.eval hx, ha.eval hy, Instr.sliceAt, Instr.slice, Instr.sliceBounds, Instr.sliceBound, asIntOf, run_underlying hu, hs w, hm]
    cases ad <;> simp [addr_add0]⟩
/-- x[l:] of a slice. -/
theorem R_sliceFrom {t u : TypeId} {x y : Operand} {b k n c sz m : Nat} {kk : IntKind} (ho : o.op = .slice t x (some y) none none) (hu : X.P.underlying t = some (.slice u)) (hs : ∀ w, (sizeOf u).run X.P w = .ok sz w)
    (hx : ev E x = some (.slice (some ⟨b, k, none⟩) n c)) (hy : ev E y = some (.int kk (m : Int))) (hm : m ≤ n) : Runs X o E H (.slice (some (if c = m then ⟨b, k, none⟩ else ⟨b, k + m * sz, none⟩)) (n - m) (c - m)) :=
  ⟨(by rw [ho]; intro c e; cases e), fun a w ha _ => by
    simp [execOp, ho, ha.eval hx, ha.eval hy, Instr.sliceAt, Instr.slice, Instr.sliceBounds, Instr.sliceBound, asIntOf, run_underlying hu, hs w, hm]
    by_cases e : c = m <;> simp [e, Addr.add]⟩
theorem R_sliceFromK {t u : TypeId} {x y : Operand} {b k n c sz m : Nat} {kk : IntKind} (ho : o.op = .slice t x (some y) none none) (hu : X.P.underlying t = some (.slice u)) (hs : ∀ w, (sizeOf u).run X.P w = .ok sz w)
    (hx : ev E x = some (.slice (some ⟨b, k, none⟩) n c)) (hy : ev E y = some (.int kk (m : Int))) (hm : m ≤ n) : Runs X o E H (.slice (some ⟨b, if c = m then k else k + m * sz, none⟩) (n - m) (c - m)) := by
  have h := R_sliceFrom (H := H) ho hu hs hx hy hm
  by_cases e : c = m
  · rw [if_pos e] at h ⊢; exact h
  · rw [if_neg e] at h ⊢; exact h
/-- x[l:h] of a slice. -/
theorem R_sliceLH {t u : TypeId} {x y z : Operand} {b k n c sz m h : Nat} {kk kz : IntKind} (ho : o.op = .slice t x (some y) (some z) none) (hu : X.P.underlying t = some (.slice u)) (hs : ∀ w, (sizeOf u).run X.P w = .ok sz w)
    (hx : ev E x = some (.slice (some ⟨b, k, none⟩) n c)) (hy : ev E y = some (.int kk (m : Int))) (hz : ev E z = some (.int kz (h : Int))) (hm : m ≤ h) (hc : h ≤ c) : Runs X o E H (.slice (some (if c = m then ⟨b, k, none⟩ else ⟨b, k + m * sz, none⟩)) (h - m) (c - m)) :=
  ⟨(by rw [ho]; intro c e; cases e), fun a w ha _ => by
    simp [execOp, ho, ha.eval hx, ha.eval hy, ha.eval hz, Instr.sliceAt, Instr.slice, Instr.sliceBounds, Instr.sliceBound, asIntOf, run_underlying hu, hs w, hm, hc]
    by_cases e : c = m <;> simp [e, Addr.add]⟩
end
theorem quo4 {i q : Nat} (h0 : 0 < i) (hi : i < 4611686018427387904) (hq : q = (i - 1) / 4) : IntKind.i64.wrap (((i : Int) - 1).tdiv 4) = (q : Int) := by
  rw [show ((i : Int) - 1) = ((i - 1 : Nat) : Int) from by omega, Int.tdiv_eq_ediv_of_nonneg (by omega), IntWalk.i64_in _ (by omega)]; omega
end Go.Proofs.Ytiokpmgbabpikaa
