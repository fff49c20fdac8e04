/-
  Chapter 10 (deadline), part AgainL: contracts of functions that the laws call, each for the heap it names.
-/
import Derived.Test.YtnkpefonocggfaaKnown
set_option linter.unusedVariables false
set_option maxRecDepth 20000
namespace Go.Proofs.Ytnkpefonocggfaa


theorem updF_two (f : Nat → Nat) (i a b : Nat) : updF (updF f i a) i b = updF f i b := by
  funext j
  unfold updF
  split <;> rfl
theorem upd_never (i : Nat) : updF F0 i 18446744073709551615 = F0 := by
  funext j
  unfold updF
  split <;> rfl
theorem nx_one {p now k : Nat} (hp : p < 256) (h : now < k) (hk : k ≤ 18446744073709551615) : IsNx (updF F0 p k) now k := by
  refine ⟨⟨hk, fun i hi h1 => ?_⟩, ?_⟩
  · by_cases e : i = p
    · subst e; rw [updF_self]; exact .inl (Nat.le_refl _)
    · rw [updF_ne _ _ e]; exact .inr (Nat.le_refl _)
  · by_cases e : k = 18446744073709551615
    · exact .inl e
    · exact .inr ⟨p, hp, by rw [updF_self]; exact h, updF_self _ _ _, by omega⟩
theorem nx_past {p now k : Nat} (h : k ≤ now) : IsNx (updF F0 p k) now 18446744073709551615 := by
  refine ⟨⟨Nat.le_refl _, fun i hi h1 => ?_⟩, .inl rfl⟩
  by_cases e : i = p
  · subst e; rw [updF_self] at h1; omega
  · rw [updF_ne _ _ e]; exact .inr (Nat.le_refl _)
theorem lap_not {p now to k : Nat} (h : k ≤ now ∨ to < k) (hto : to < 18446744073709551615) : IsLap (updF F0 p k) now to [] := by
  refine ⟨.nil, fun x => ⟨fun hx => (by cases hx), ?_⟩⟩
  rintro ⟨i, hi, h1, h2, rfl⟩
  by_cases e : i = p
  · subst e; rw [updF_self] at h1 h2; omega
  · rw [updF_ne _ _ e] at h2
    have : F0 i = 18446744073709551615 := rfl
    omega
theorem lap_it {fd dir now k : Nat} (h1 : fd < 128) (h2 : dir < 2) (h : now < k) (hk : k < 18446744073709551615) : IsLap (updF F0 (2 * fd + dir) k) now k [⟨(fd : Int), (dir : Int), k⟩] := by
  have e : lpI (updF F0 (2 * fd + dir) k) (2 * fd + dir) = ⟨(fd : Int), (dir : Int), k⟩ := by
    unfold lpI
    rw [updF_self, show (2 * fd + dir) / 2 = fd from by omega, show (2 * fd + dir) % 2 = dir from by omega]
  refine ⟨List.pairwise_singleton _ _, fun x => ⟨fun hx => ?_, ?_⟩⟩
  · rw [List.mem_singleton] at hx
    subst hx
    exact ⟨2 * fd + dir, by omega, by rw [updF_self]; exact h, by rw [updF_self]; exact Nat.le_refl _, e.symm⟩
  · rintro ⟨i, hi, q1, q2, rfl⟩
    by_cases e2 : i = 2 * fd + dir
    · subst e2; rw [e]; exact List.mem_singleton.2 rfl
    · rw [updF_ne _ _ e2] at q2
      have : F0 i = 18446744073709551615 := rfl
      omega
structure AgW where
  k : Nat
  d : DM
  last : Nat

end Go.Proofs.Ytnkpefonocggfaa
