/-
  Chapter 17 (registry), part NameL: contracts of functions that the laws call, each for the heap it names.
-/
import Derived.Test.YtiomimjjdbijmaaSLMapJ
set_option linter.unusedVariables false
set_option maxRecDepth 20000
namespace Go.Proofs.Ytiomimjjdbijmaa


/-- Which bytes may lie at a place of a name. -/
abbrev isL (c : Nat) : Prop := (65 ≤ c ∧ c ≤ 90) ∨ (97 ≤ c ∧ c ≤ 122)
abbrev isD (c : Nat) : Prop := 48 ≤ c ∧ c ≤ 57
abbrev okCh (i c : Nat) : Prop := isL c ∨ (i ≠ 0 ∧ (isD c ∨ c = 45 ∨ c = 95))
def validN (s : ByteArray) : Bool := decide (1 ≤ s.size) && decide (s.size ≤ 32) && (List.range s.size).all (fun i => decide (okCh i ((byt s).getD i 0).toNat))
theorem validN_iff {s : ByteArray} : validN s = true ↔ (1 ≤ s.size ∧ s.size ≤ 32) ∧ ∀ i u, (byt s)[i]? = some u → okCh i u.toNat := by
  unfold validN
  simp only [Bool.and_eq_true, decide_eq_true_eq, List.all_eq_true, List.mem_range]
  refine and_congr_right fun _ => ⟨fun h i u hu => ?_, fun h i hi => ?_⟩
  · have hi : i < s.size := by rw [← byt_len]; exact (List.getElem?_eq_some_iff.1 hu).1
    have := h i hi
    rw [List.getD_eq_getElem?_getD, hu] at this
    exact this
  · have hi' : i < (byt s).length := by rw [byt_len]; exact hi
    have := h i (byt s)[i] (List.getElem?_eq_getElem hi')
    rw [List.getD_eq_getElem?_getD, List.getElem?_eq_getElem hi']
    exact this
theorem validN_bad {s : ByteArray} {i : Nat} {u : UInt8} (h : (byt s)[i]? = some u) (hn : ¬ okCh i u.toNat) : validN s = false := by
  cases e : validN s with
  | false => rfl
  | true => exact absurd ((validN_iff.1 e).2 i u h) hn
theorem validN_len {s : ByteArray} (h : ¬ (1 ≤ s.size ∧ s.size ≤ 32)) : validN s = false := by
  cases e : validN s with
  | false => rfl
  | true => exact absurd (validN_iff.1 e).1 h
theorem validN_end {s : ByteArray} (h : ∀ i u, (byt s)[i]? = some u → okCh i u.toNat) (h1 : 1 ≤ s.size) : decide ((s.size : Int) ≤ 32) = validN s := by
  by_cases h2 : s.size ≤ 32
  · rw [validN_iff.2 ⟨⟨h1, h2⟩, h⟩]; exact decide_eq_true (by omega)
  · rw [validN_len (by omega)]; exact decide_eq_false (by omega)
theorem byt_at {s : ByteArray} {i : Nat} (h : i < s.size) : ∃ u, (byt s)[i]? = some u := ⟨_, List.getElem?_eq_getElem (by rw [byt_len]; exact h)⟩
/-- An address: its name and its port. -/
abbrev Ad := ByteArray × Int
abbrev encAd (a : Ad) : List Value := [.string a.1, .int .i64 a.2]
abbrev adV (a : Ad) : Value := .agg #[.string a.1, .int .i64 a.2]
def validA (a : Ad) : Bool := validN a.1 && (decide (0 ≤ a.2) && decide (a.2 ≤ 65535))

end Go.Proofs.Ytiomimjjdbijmaa
