/-
  Chapter 17 (registry), part FullL: contracts of functions that the laws call, each for the heap it names.
-/
import Derived.Test.YtiomimjjdbijmaaLaw5
set_option linter.unusedVariables false
set_option maxRecDepth 20000
namespace Go.Proofs.Ytiomimjjdbijmaa


abbrev fx : ByteArray := ⟨#[120]⟩
abbrev fy : ByteArray := ⟨#[121]⟩
def fnm (i : Nat) : ByteArray := [fx, fy, wb].getD (i % 3) fx
def fpo (i : Nat) : Nat := i % 2 * (i + 1)
theorem fnm_at (i : Nat) : ([.string fx, .string fy, .string wb] : List Value)[0 + i % 3 * 1]? = some (.string (fnm i)) := by
  unfold fnm
  have h : i % 3 < 3 := Nat.mod_lt _ (by decide)
  rcases (show i % 3 = 0 ∨ i % 3 = 1 ∨ i % 3 = 2 by omega) with e | e | e <;> rw [e] <;> rfl
theorem fnm_valid (i : Nat) : validN (fnm i) = true := by
  unfold fnm
  have h : i % 3 < 3 := Nat.mod_lt _ (by decide)
  rcases (show i % 3 = 0 ∨ i % 3 = 1 ∨ i % 3 = 2 by omega) with e | e | e <;> rw [e] <;> decide +kernel
theorem fpo_cases (i : Nat) : fpo i = 0 ∨ fpo i = i + 1 := by
  unfold fpo
  rcases Nat.mod_two_eq_zero_or_one i with h | h <;> rw [h]
  · left; omega
  · right; omega
theorem fpo_mul {i : Nat} (h : i < 1000) : IntKind.i64.wrap (((i % 2 : Nat) : Int) * ((i : Int) + 1)) = ((fpo i : Nat) : Int) := by
  have e : ((i % 2 : Nat) : Int) * ((i : Int) + 1) = ((fpo i : Nat) : Int) := by unfold fpo; push_cast; rfl
  rw [e]
  have := fpo_cases i
  exact wrap64_in (by omega) (by omega)
structure FlIs (W : List Bd) (i : Nat) : Prop where
  len : W.length = i
  low : ∀ a ∈ kys W, 49152 ≤ a.2 ∨ a.2 ≤ i
theorem kys_ins {W : List Bd} {x : Bd} {a : Ad} : a ∈ kys (insB W x) ↔ a = x.1 ∨ a ∈ kys W := by
  have h := ((insB_perm x W).map (·.1)).mem_iff (a := a)
  unfold kys
  rw [← h, List.map_cons, List.mem_cons]
theorem FlIs.bind {W : List Bd} {i : Nat} (h : FlIs W i) (hi : i < 128) : bndE W (fnm i, ((fpo i : Nat) : Int)) (i : Int) = 0 ∧ FlIs (bndW W (fnm i, ((fpo i : Nat) : Int)) (i : Int)) (i + 1) := by
  have hp := fpo_cases i
  have hl := h.len
  have hv : validA (fnm i, ((fpo i : Nat) : Int)) = true := by
    unfold validA
    rw [fnm_valid, decide_eq_true (show (0 : Int) ≤ ((fpo i : Nat) : Int) by omega), decide_eq_true (show ((fpo i : Nat) : Int) ≤ 65535 by omega)]; rfl
  have hA : bndA W (fnm i, ((fpo i : Nat) : Int)) ∉ kys W ∧ (49152 ≤ (bndA W (fnm i, ((fpo i : Nat) : Int))).2 ∨ (bndA W (fnm i, ((fpo i : Nat) : Int))).2 ≤ ((i + 1 : Nat) : Int)) := by
    by_cases h0 : ((fpo i : Nat) : Int) = 0
    · rw [bndA_0 h0]
      exact ⟨(frN_out (by omega) _).2, .inl (by dsimp only; omega)⟩
    · rw [bndA_p h0]
      refine ⟨fun hin => ?_, .inr (by dsimp only; omega)⟩
      have := h.low _ hin
      dsimp only at this
      omega
  obtain ⟨e1, e2, _⟩ := bnd_ok (v := (i : Int)) hv (by omega) hA.1 (by omega)
  refine ⟨e1, ?_⟩
  rw [e2]
  refine ⟨by rw [insB_len, hl], fun a ha => ?_⟩
  rcases kys_ins.1 ha with rfl | ha
  · exact hA.2
  · rcases h.low a ha with h1 | h1
    · exact .inl h1
    · right; omega

end Go.Proofs.Ytiomimjjdbijmaa
