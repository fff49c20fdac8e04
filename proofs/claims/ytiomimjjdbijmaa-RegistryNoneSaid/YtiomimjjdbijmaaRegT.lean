/-
  Chapter 17 (registry), part RegT: contracts of functions that the laws call, each for the heap it names.
-/
import Derived.Test.YtiomimjjdbijmaaRegB
set_option linter.unusedVariables false
set_option maxRecDepth 20000
namespace Go.Proofs.Ytiomimjjdbijmaa


theorem srt_eq : ∀ {l l2 : List Ad}, l.Perm l2 → l.Pairwise (fun a b => ¬ adLt b a) → l2.Pairwise adLt → l = l2
  | [], l2, hp, _, _ => by rw [List.nil_perm.1 hp]
  | a :: r, [], hp, _, _ => by have := hp.length_eq; simp at this
  | a :: r, b :: r2, hp, h1, h2 => by
    obtain ⟨h1a, h1b⟩ := List.pairwise_cons.1 h1
    obtain ⟨h2a, h2b⟩ := List.pairwise_cons.1 h2
    have e : a = b := by
      have hb : b ∈ a :: r := hp.mem_iff.2 (List.mem_cons_self ..)
      have ha : a ∈ b :: r2 := hp.mem_iff.1 (List.mem_cons_self ..)
      rcases List.mem_cons.1 ha with h | h
      · exact h
      · rcases List.mem_cons.1 hb with h3 | h3
        · exact h3.symm
        · exact absurd (h2a a h) (h1a b h3)
    subst e
    rw [srt_eq (List.Perm.cons_inv hp) h1b h2b]
theorem srt_kys {W : List Bd} (h : SrtB W) : (kys W).Pairwise adLt := by unfold kys; rw [List.pairwise_map]; exact h

end Go.Proofs.Ytiomimjjdbijmaa
