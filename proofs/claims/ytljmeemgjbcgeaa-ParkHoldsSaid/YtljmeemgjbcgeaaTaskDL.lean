/-
  Chapter 09 (park), part TaskDL: contracts of functions that the laws call, each for the heap it names.
-/
import Derived.Test.YtljmeemgjbcgeaaRows
import Derived.Test.YtljmeemgjbcgeaaZSLQueue
import Derived.Test.YtljmeemgjbcgeaaTab
import Derived.Test.YtljmeemgjbcgeaaTask
set_option linter.unusedVariables false
set_option maxRecDepth 20000
namespace Go.Proofs.Ytljmeemgjbcgeaa


theorem Tk.room {S : List (Int × Nat)} {Q : List (Nat × Int)} {n : Nat} (h : Tk S Q n) : Q.length ≤ 64 := by
  have h1 : (Q.map fun x => x.2.toNat).Nodup := by
    rw [List.Nodup, List.pairwise_map]
    refine (List.Pairwise.and_mem.1 h.qk.ord).imp fun {a b} ⟨ha, hb, hlt⟩ e => ?_
    obtain ⟨i, hi, h1⟩ := h.back a.1 a.2 ha
    obtain ⟨j, hj, h2⟩ := h.back b.1 b.2 hb
    have : i = j := by rw [hi, hj] at e; simpa using e
    subst this
    rw [h1] at h2
    simp only [Option.some.injEq, Prod.mk.injEq, true_and] at h2
    omega
  have h2 := pigeon _ (List.range S.length) h1 (fun k hk => by
    obtain ⟨x, hx, rfl⟩ := List.mem_map.1 hk
    obtain ⟨i, hi, h1⟩ := h.back x.1 x.2 hx
    rw [hi, Int.toNat_natCast]
    exact List.mem_range.2 (List.getElem?_eq_some_iff.1 h1).1)
  rw [List.length_map, List.length_range] at h2
  have := h.len.2
  omega
theorem Tk.only {S : List (Int × Nat)} {A B : List (Nat × Int)} {n t i : Nat} (h : Tk S (A ++ (t, (i : Int)) :: B) n) : ∀ x ∈ A ++ B, x.2 ≠ (i : Int) := fun x hx e => by
  obtain ⟨i', hi', h1⟩ := h.back t i (List.mem_append_right _ (List.mem_cons_self ..))
  obtain rfl : i = i' := by omega
  have hx' : x ∈ A ++ (t, (i : Int)) :: B := by
    rcases List.mem_append.1 hx with hx | hx
    · exact List.mem_append_left _ hx
    · exact List.mem_append_right _ (List.mem_cons_of_mem _ hx)
  obtain ⟨j, hj, h2⟩ := h.back x.1 x.2 hx'
  have : j = i := by rw [hj] at e; omega
  subst this
  rw [h1] at h2
  simp only [Option.some.injEq, Prod.mk.injEq, true_and] at h2
  have hn := h.qk.nodup
  have hp := ((List.perm_middle (l₁ := A) (a := (t, (j : Int))) (l₂ := B)).map (fun x : Nat × Int => x.1)).nodup_iff.1 hn
  rw [List.map_cons, List.nodup_cons] at hp
  exact hp.1 (List.mem_map.2 ⟨x, hx, h2.symm⟩)
theorem tk_leave {S : List (Int × Nat)} {A B : List (Nat × Int)} {n t i : Nat} {to : Int} (h : Tk S (A ++ (t, (i : Int)) :: B) n) (hto : to = 0 ∨ to = 2) (u : Nat) : Tk (S.set i (to, u)) (A ++ B) n := by
  have hin : ∀ x ∈ A ++ B, x ∈ A ++ (t, (i : Int)) :: B := fun x hx => by
    rcases List.mem_append.1 hx with hx | hx
    · exact List.mem_append_left _ hx
    · exact List.mem_append_right _ (List.mem_cons_of_mem _ hx)
  refine ⟨by rw [List.length_set]; exact h.len, h.qk.rem, fun j t' hj => ?_, fun t' v hv => ?_, fun j x t' hj => ?_⟩
  · rw [List.getElem?_set] at hj
    split at hj
    · rename_i e
      split at hj
      · simp only [Option.some.injEq, Prod.mk.injEq] at hj; omega
      · cases hj
    · rename_i e
      have h1 := h.ready j t' hj
      rcases List.mem_append.1 h1 with h1 | h1
      · exact List.mem_append_left _ h1
      · rcases List.mem_cons.1 h1 with h1 | h1
        · simp only [Prod.mk.injEq] at h1; omega
        · exact List.mem_append_right _ h1
  · obtain ⟨j, hj, h1⟩ := h.back t' v (hin _ hv)
    have hne := h.only _ hv
    refine ⟨j, hj, ?_⟩
    rw [List.getElem?_set, if_neg (fun e => hne (by rw [hj, e]))]
    exact h1
  · rw [List.getElem?_set] at hj
    split at hj
    · split at hj
      · simp only [Option.some.injEq, Prod.mk.injEq] at hj; omega
      · cases hj
    · exact h.stt j x t' hj
theorem tk_enter {S : List (Int × Nat)} {Q : List (Nat × Int)} {n i : Nat} {x : Int} {t : Nat} (h : Tk S Q n) (hi : S[i]? = some (x, t)) (hx : x ≠ 1) : Tk (S.set i (1, n + 1)) (Q ++ [(n + 1, (i : Int))]) (n + 1) := by
  have hlt := (List.getElem?_eq_some_iff.1 hi).1
  refine ⟨by rw [List.length_set]; exact h.len, h.qk.push _, fun j t' hj => ?_, fun t' v hv => ?_, fun j y t' hj => ?_⟩
  · rw [List.getElem?_set] at hj
    split at hj
    · rename_i e
      subst e
      simp only [Option.some.injEq, Prod.mk.injEq, true_and] at hj
      subst hj
      exact List.mem_append_right _ (List.mem_cons_self ..)
    · exact List.mem_append_left _ (h.ready j t' hj)
  · rcases List.mem_append.1 hv with hv | hv
    · obtain ⟨j, hj, h1⟩ := h.back t' v hv
      refine ⟨j, hj, ?_⟩
      rw [List.getElem?_set, if_neg (fun e => ?_)]
      · exact h1
      · subst e
        rw [hi] at h1
        simp only [Option.some.injEq, Prod.mk.injEq] at h1
        exact hx h1.1
    · rw [List.mem_singleton] at hv
      simp only [Prod.mk.injEq] at hv
      obtain ⟨rfl, rfl⟩ := hv
      exact ⟨i, rfl, by rw [List.getElem?_set, if_pos rfl, if_pos hlt]⟩
  · rw [List.getElem?_set] at hj
    split at hj
    · simp only [Option.some.injEq, Prod.mk.injEq] at hj; omega
    · exact h.stt j y t' hj
theorem vals_rem {S : List (Int × Nat)} {A B : List (Nat × Int)} {n t i : Nat} (h : Tk S (A ++ (t, (i : Int)) :: B) n) : ((A ++ (t, (i : Int)) :: B).map (·.2)).filter (fun v => decide (v ≠ (i : Int))) = (A ++ B).map (·.2) := by
  rw [List.map_append, List.map_cons, List.filter_append, List.filter_cons_of_neg (by simp), ← List.filter_append, ← List.map_append]
  exact List.filter_eq_self.2 fun v hv => by
    obtain ⟨x, hx, rfl⟩ := List.mem_map.1 hv
    simpa using h.only x hx
theorem vals_same {S : List (Int × Nat)} {Q : List (Nat × Int)} {n i : Nat} {x : Int} {t : Nat} (h : Tk S Q n) (hi : S[i]? = some (x, t)) (hx : x ≠ 1) : (Q.map (·.2)).filter (fun v => decide (v ≠ (i : Int))) = Q.map (·.2) :=
  List.filter_eq_self.2 fun v hv => by
    obtain ⟨y, hy, rfl⟩ := List.mem_map.1 hv
    obtain ⟨j, hj, h1⟩ := h.back y.1 y.2 hy
    simp only [decide_eq_true_eq]
    intro e
    have : j = i := by rw [hj] at e; omega
    subst this
    rw [hi] at h1
    simp only [Option.some.injEq, Prod.mk.injEq] at h1
    exact hx h1.1
/-- What a call does to states and run set. -/
def DoQ (S : List (Int × Nat)) (Q : List (Nat × Int)) (n : Nat) (fr to task e : Int) (S' : List (Int × Nat)) (Q' : List (Nat × Int)) (n' : Nat) : Prop :=
  n' ≤ n + 1 ∧ S'.length = S.length ∧ Tk S' Q' n' ∧
  (((task < 0 ∨ (S.length : Int) ≤ task) ∧ e = 2 ∧ S' = S ∧ Q' = Q) ∨
   ∃ (i : Nat) (x : Int) (t : Nat), task = (i : Int) ∧ S[i]? = some (x, t) ∧ ((x ≠ fr ∧ e = 8 ∧ S' = S ∧ Q' = Q) ∨
     (x = fr ∧ e = 0 ∧ S'.map (·.1) = (S.map (·.1)).set i to ∧ Q'.map (·.2) = (Q.map (·.2)).filter (fun v => decide (v ≠ (i : Int))) ++ (if to = 1 then [(i : Int)] else []))))

end Go.Proofs.Ytljmeemgjbcgeaa
