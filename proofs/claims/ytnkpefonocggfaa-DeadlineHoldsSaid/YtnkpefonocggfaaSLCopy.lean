/-
  The builtin copy, from a slice to a slice (also within one block).
-/
import Derived.Test.YtnkpefonocggfaaSLApp
import Derived.Laws.CopyRow
namespace Go.Proofs.Ytnkpefonocggfaa
section
variable {X : Ctx} {E : Env} {H : Heap} {o : Oper}
theorem D_copy {t t2 e0 e e2 : TypeId} {sz bytes b k dl dc b2 k2 sl sc n : Nat} {zs cs cs2 news : List Value} {x y : Operand} {F : Heap}
    (ho : o.op = .call { callee := .builtin .copy, args := #[x, y], argTypes := #[t, t2] }) (hs : SI X.P t e0 sz bytes zs) (hx : ev E x = some (.slice (some ⟨b, k, none⟩) dl dc)) (hp : Pull ⟨some b, cl cs e⟩ H F)
    (hy : ev E y = some (.slice (some ⟨b2, k2, none⟩) sl sc)) (hm : (⟨some b2, cl cs2 e2⟩ : Ent) ∈ H) (hat : At cs2 k2 news) (hn : n = Nat.min sl dl) (hl : news.length = n * sz) (h1 : news.all Value.oneCell' = true) (hfit : k + news.length ≤ cs.length) :
    Does X o E H (fun v H' => v = .int .i64 (n : Int) ∧ H' = ⟨some b, cl (cs.take k ++ news ++ cs.drop (k + news.length)) e⟩ :: F) := by
  intro a w ha hw next Q kk
  obtain ⟨g1, i, z, g2, g3, g4, g5, g6, g7, g8⟩ := hs
  refine ⟨about_true, ?_⟩
  rw [semAt_of (by rw [ho]; intro c e; cases e)]
  have hnews := cells_at hw hm hat
  have hb : w.heap[b]? = some (cl cs e) := by
    have := hw.hok.ok _ (pull_mem hp)
    simpa [Ent.ok] using this
  have hf := run_firstCells_some (P := X.P) (w := w) i.size n ⟨b2, k2, none⟩ sl sc news (by rw [g4]; exact hl) hnews
  obtain ⟨w', q1, q2, q3, q4, q5, q6, q7, q8⟩ := run_storeCells_at (P := X.P) (b := b) (e := e) k news 0 cs w hb (by omega) (List.all_eq_true.1 h1)
  have hr : (Builtin.copy_ #[t, t2] o.type #[.slice (some ⟨b, k, none⟩) dl dc, .slice (some ⟨b2, k2, none⟩) sl sc]).run X.P w = .ok (.int .i64 (n : Int)) w' := by
    have hn2 : sl.min dl = n := hn.symm
    simp [Builtin.copy_, run_underlying g1, Builtin.lenOf, sizeOf, typeInfo, g2, goInt]
    rw [hn2, hf]
    simp [q1]
  have hexec : (execOp a.eval o).run X.P w = .ok (.value (.int .i64 (n : Int))) w' := by
    simp [execOp, ho, resolve, ha.eval hx, ha.eval hy, invoke, builtin, hr]
  rw [hexec]
  refine kk _ _ _ ⟨rfl, ?_⟩ (hw.turn hp q2 q3 q4 q5 q6 q7 q8)
  rw [Nat.add_zero, putAt_eq cs k news hfit]
end
end Go.Proofs.Ytnkpefonocggfaa
