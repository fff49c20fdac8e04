/-
  More quiet operations: an append of nothing to nothing, loads from a block of any marks; a slice that came in as an argument.
-/
import Derived.Test.YtiokpmgbabpikaaSLArr
namespace Go.Proofs.Ytiokpmgbabpikaa
section
variable {X : Ctx} {o : Oper} {E : Env} {H : Heap}
theorem R_append00 {t e : TypeId} {sz bytes : Nat} {zs : List Value} {x y : Operand} (ho : o.op = .call { callee := .builtin .append, args := #[x, y], argTypes := #[t, t] }) (hs : SI X.P t e sz bytes zs)
    (hx : ev E x = some (slV none 0 0)) (hy : ev E y = some (slV none 0 0)) : Runs X o E H (slV none 0 0) :=
  ⟨(by rw [ho]; intro c e; cases e), fun a w ha _ => by
    obtain ⟨g1, i, z, g2, g3, g4, g5, g6, g7, g8⟩ := hs
    have hr : (Builtin.append_ #[t, t] o.type #[slV none 0 0, slV none 0 0]).run X.P w = .ok (slV none 0 0) w := by
      simp [Builtin.append_, slV, run_underlying g1, sizeOf, typeInfo, g2, Builtin.lenOf, Builtin.firstCells]
    simp [execOp, ho, resolve, ha.eval hx, ha.eval hy, invoke, builtin, hr]⟩

theorem WM_none {ops : Array Oper} {p : Post} {Hq : Heap} {l : List (Nat × Bool)} (e : TypeId) (k : WM X ops p Hq l E (⟨none, cl [] e⟩ :: H)) : WM X ops p Hq l E H := fun a w ha hw => k a w ha (hw.addNone e)
theorem cell_ofG {H0 : Heap} {w0 w : World} {b : Nat} {cs : List Value} {e : TypeId} {fr : Nat × Nat} (hw : HW H0 w0 H w) (hm : (⟨some b, .cells cs.toArray e fr⟩ : Ent) ∈ H) (k : Nat) : w.cell? ⟨b, k, none⟩ = cs[k]? := by
  have h : w.heap[b]? = some (.cells cs.toArray e fr) := hw.hok.ok _ hm
  simp [World.cell?, h]
theorem R_loadG {t : TypeId} {x : Operand} {b k : Nat} {cs : List Value} {e : TypeId} {fr : Nat × Nat} {v : Value} (ho : o.op = .load t x) (ht : Sc X.P t) (hx : ev E x = some (.pointer (some ⟨b, k, none⟩)))
    (hm : (⟨some b, .cells cs.toArray e fr⟩ : Ent) ∈ H) (hv : cs[k]? = some v) : Runs X o E H v :=
  ⟨(by rw [ho]; intro c e; cases e), fun a w ha hw => by
    have hc := cell_ofG hw hm k
    rw [hv] at hc
    simp [execOp, ho, ha.eval hx, Instr.loadAt, Instr.sureAddr, loadVar, (ht w).1, hc]⟩
theorem R_loadAG {t : TypeId} {x : Operand} {b k n : Nat} {cs : List Value} {e : TypeId} {fr : Nat × Nat} {vs : List Value} (ho : o.op = .load t x) (ht : Ag X.P t n) (hx : ev E x = some (.pointer (some ⟨b, k, none⟩)))
    (hm : (⟨some b, .cells cs.toArray e fr⟩ : Ent) ∈ H) (hn : vs.length = n) (hv : At cs k vs) : Runs X o E H (.agg vs.toArray) :=
  ⟨(by rw [ho]; intro c e; cases e), fun a w ha hw => by
    have hl := run_loadCells_list (P := X.P) w ⟨b, k, none⟩ vs (fun j v hj => by rw [add_at, cell_ofG hw hm]; exact hv j v hj)
    simp [execOp, ho, ha.eval hx, Instr.loadAt, Instr.sureAddr, loadVar, (ht w).1, (ht w).2, ← hn, hl]⟩
end
/-- A slice that came in: where it starts, the block that holds it (none: nothing lies in it), what it reads as. -/
def Arg {α : Type} (oa : Option Addr) (x : Ent) (sz : Nat) (enc : α → List Value) (l : List α) : Prop :=
  (l = [] ∧ x = ⟨none, cl [] 0⟩) ∨ ∃ b k cs e fr, oa = some ⟨b, k, none⟩ ∧ x = ⟨some b, .cells (List.toArray cs) e fr⟩ ∧ ∀ (i : Nat) (y : α), l[i]? = some y → At cs (k + i * sz) (enc y)
theorem Arg.some {α : Type} {oa : Option Addr} {x : Ent} {sz : Nat} {enc : α → List Value} {l : List α} (h : Arg oa x sz enc l) (hl : 0 < l.length) :
    ∃ b k cs e fr, oa = Option.some ⟨b, k, none⟩ ∧ x = ⟨Option.some b, .cells (List.toArray cs) e fr⟩ ∧ ∀ (i : Nat) (y : α), l[i]? = Option.some y → At cs (k + i * sz) (enc y) := by
  rcases h with ⟨rfl, _⟩ | h
  · simp at hl
  · exact h
theorem exE {α : Type} {T : List α} {i : Nat} (h : i < T.length) : ∃ x, T[i]? = Option.some x := ⟨_, List.getElem?_eq_getElem h⟩
end Go.Proofs.Ytiokpmgbabpikaa
