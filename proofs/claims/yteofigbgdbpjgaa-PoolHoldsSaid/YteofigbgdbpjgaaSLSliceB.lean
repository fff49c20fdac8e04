/-
  More on slices: x[:] of an array, clear.
-/
import Derived.Test.YteofigbgdbpjgaaZB
set_option linter.unusedVariables false
set_option linter.unusedSimpArgs false
namespace Go.Proofs.Yteofigbgdbpjgaa
section
variable {X : Ctx} {E : Env} {H : Heap} {o : Oper}
/-- x[:] of an array that lies in memory. -/
theorem R_sliceArr {t u : TypeId} {x : Operand} {b k n sz : Nat} (ho : o.op = .slice t x none none none) (hu : X.P.underlying t = some (.array n u)) (hs : ∀ w, (sizeOf u).run X.P w = .ok sz w)
    (hx : ev E x = some (.pointer (some ⟨b, k, none⟩))) : Runs X o E H (.slice (some ⟨b, k, none⟩) n n) :=
  ⟨(by rw [ho]; intro c e; cases e), fun a w ha _ => by
    have h : (Instr.sliceAt t (.pointer (some ⟨b, k, none⟩)) none none none).run X.P w = .ok (.slice (some ⟨b, k, none⟩) n n) w := by
      simp [Instr.sliceAt, Instr.sliceBounds, Instr.sliceBound, Instr.sureAddr, run_underlying hu, hs w, addr_add0]
    simp [execOp, ho, ha.eval hx, h]⟩
theorem run_zeroValue {P : Program} {e : TypeId} {i : TypeInfo} {z : Value} (h1 : P.info? e = some i) (h2 : i.zero = some z) (w : World) : (zeroValue e).run P w = .ok z w := by
  simp [zeroValue, typeInfo, h1, h2]
/-- clear(x[k:]) -/
theorem D_clear {t e e2 : TypeId} {sz bytes b k n c : Nat} {zs cs : List Value} {x : Operand} {F : Heap} (ho : o.op = .call { callee := .builtin .clear, args := #[x], argTypes := #[t] }) (hs : SI X.P t e sz bytes zs) (h1 : ∀ v ∈ zs, v.oneCell' = true)
    (hx : ev E x = some (.slice (some ⟨b, k, none⟩) n c)) (hp : Pull ⟨some b, cl cs e2⟩ H F) (hk : n = 0 ∨ k + n * sz ≤ cs.length) :
    Does X o E H (fun _ H' => ∃ ns : List Value, ns.length = n * sz ∧ H' = ⟨some b, cl (putAt cs k ns) e2⟩ :: F) := by
  intro a w ha hw next Q kk
  obtain ⟨g1, i, z, g2, g3, g4, g5, g6, g7, g8⟩ := hs
  refine ⟨about_true, ?_⟩
  rw [semAt_of (by rw [ho]; intro c e; cases e)]
  have hb : w.heap[b]? = some (cl cs e2) := by
    have := (hw.perm hp.perm).hok.ok _ (List.mem_cons_self ..)
    simpa [Ent.ok] using this
  cases n with
  | zero =>
    have hrun : (execOp a.eval o).run X.P w = .ok (.value (.tuple #[])) w := by
      simp [execOp, ho, resolve, ha.eval hx, invoke, builtin, Builtin.clear_, run_underlying g1]
    rw [hrun]
    exact kk _ _ _ ⟨[], by simp, rfl⟩ (by rw [putAt_nil]; exact hw.perm hp.perm)
  | succ n =>
    have hk' : k + (n + 1) * sz ≤ cs.length := by
      rcases hk with e | e
      · cases e
      · exact e
    have hlen : (Builtin.zeroCells zs.toArray (n + 1)).toList.length = (n + 1) * sz := by rw [Array.length_toList, size_zeroCells, List.size_toArray, g7]
    have hall : ∀ v ∈ (Builtin.zeroCells zs.toArray (n + 1)).toList, v.oneCell' = true := fun v hv => by
      simp only [Builtin.zeroCells, Array.toList_map, List.mem_map] at hv
      obtain ⟨j, _, rfl⟩ := hv
      have hj : j % zs.toArray.size < zs.toArray.size := Nat.mod_lt _ (by rw [List.size_toArray, g7]; exact g8)
      rw [getElem!_pos zs.toArray _ hj]
      exact h1 _ (by simp)
    obtain ⟨w', s1, s2, s3, s4, s5, s6, s7, s8⟩ := run_storeCells_at (P := X.P) (b := b) (e := e2) k (Builtin.zeroCells zs.toArray (n + 1)).toList 0 cs w hb (by rw [hlen]; omega) hall
    have hrun : (execOp a.eval o).run X.P w = .ok (.value (.tuple #[])) w' := by
      simp [execOp, ho, resolve, ha.eval hx, invoke, builtin, Builtin.clear_, run_underlying g1, run_zeroValue g2 g3, g6, s1]
    rw [hrun]
    exact kk _ _ _ ⟨_, hlen, rfl⟩ (by rw [Nat.add_zero] at s3; exact hw.turn hp s2 s3 s4 s5 s6 s7 s8)
end
theorem WZ_set {X : Ctx} {ops : Array Oper} {p : Post} {Hq : Heap} {E : Env} {H : Heap} {r es : List (Nat × Bool)} {s : Nat} {v v' : Value} (h : gtE E s = some v') (he : v' = v) (k : WZ X ops p Hq r es ((s, v) :: E) H) : WZ X ops p Hq r es E H := by
  subst he
  intro a w ha hw
  refine k a w ⟨ha.size, ha.defers, fun t v ht => ?_⟩ hw
  rw [get_cons] at ht
  split at ht
  · rename_i e; subst e; cases ht; exact ha.env _ _ h
  · exact ha.env _ _ ht
end Go.Proofs.Yteofigbgdbpjgaa
