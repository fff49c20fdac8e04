/-
  Slices whose block is told by an equation: an element's place, and loads from it.
-/
import Derived.Test.YtiokpmgbabpikaaSLApp
namespace Go.Proofs.Ytiokpmgbabpikaa
section
variable {X : Ctx} {E : Env} {H : Heap} {o : Oper} {ob : Option Nat} {b : Nat}
theorem R_idxO {t u : TypeId} {x y : Operand} {n c sz i : Nat} {kk : IntKind} (hob : ob = some b) (ho : o.op = .indexAddr t x y) (hu : X.P.underlying t = some (.slice u)) (hs : ∀ w, (sizeOf u).run X.P w = .ok sz w)
    (hx : ev E x = some (slV ob n c)) (hy : ev E y = some (.int kk (i : Int))) (hi : i < n) : Runs X o E H (.pointer (some ⟨b, 0 + i * sz, none⟩)) := by
  subst hob
  exact R_indexAddrN ho hu hs hx hy hi
theorem R_loadO {t : TypeId} {x : Operand} {k : Nat} {cs : List Value} {e : TypeId} {v : Value} (hob : ob = some b) (ho : o.op = .load t x) (ht : Sc X.P t) (hx : ev E x = some (.pointer (some ⟨b, k, none⟩)))
    (hm : (⟨ob, cl cs e⟩ : Ent) ∈ H) (hv : cs[k]? = some v) : Runs X o E H v := by
  subst hob
  exact R_load ho ht hx hm hv
theorem R_loadAO {t : TypeId} {x : Operand} {k n : Nat} {cs : List Value} {e : TypeId} {vs : List Value} (hob : ob = some b) (ho : o.op = .load t x) (ht : Ag X.P t n) (hx : ev E x = some (.pointer (some ⟨b, k, none⟩)))
    (hm : (⟨ob, cl cs e⟩ : Ent) ∈ H) (hn : vs.length = n) (hv : At cs k vs) : Runs X o E H (.agg vs.toArray) := by
  subst hob
  exact R_loadA ho ht hx hm hn hv
theorem D_storeO {t : TypeId} {x y : Operand} {k n : Nat} {v : Value} {cs vs : List Value} {e : TypeId} {F : Heap} (hob : ob = some b) (ho : o.op = .store t x y) (hs : ∀ w, (sizeOf t).run X.P w = .ok n w)
    (hx : ev E x = some (.pointer (some ⟨b, k, none⟩))) (hy : ev E y = some v) (hv : v.cells.toList = vs) (hn : vs.length = n) (h1 : vs.all Value.oneCell' = true)
    (hp : Pull ⟨ob, cl cs e⟩ H F) (hk : k + n ≤ cs.length) : Does X o E H (fun _ H' => H' = ⟨ob, cl (putAt cs k vs) e⟩ :: F) := by
  subst hob
  exact D_store ho hs hx hy hv hn h1 hp hk
end
end Go.Proofs.Ytiokpmgbabpikaa
