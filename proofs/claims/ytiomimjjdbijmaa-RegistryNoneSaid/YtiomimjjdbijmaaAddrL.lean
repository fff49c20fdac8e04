/-
  Chapter 17 (registry), part AddrL: contracts of functions that the laws call, each for the heap it names.
-/
import Derived.Test.YtiomimjjdbijmaaNameL
import Derived.Test.YtiomimjjdbijmaaSLCmpS
import Derived.Test.YtiomimjjdbijmaaCmpL
set_option linter.unusedVariables false
set_option maxRecDepth 20000
namespace Go.Proofs.Ytiomimjjdbijmaa


open Go.Lib in
def cmpAd (a b : Ad) : Int := orL [compareBytes (byt a.1) (byt b.1), cmpI a.2 b.2]
theorem cmpAd_eq (a b : Ad) : cmpAd a b = if Go.Lib.compareBytes (byt a.1) (byt b.1) = 0 then cmpI a.2 b.2 else Go.Lib.compareBytes (byt a.1) (byt b.1) := by
  unfold cmpAd orL
  by_cases h : Go.Lib.compareBytes (byt a.1) (byt b.1) = 0
  · rw [if_neg (fun e => e h), if_pos h]
    unfold orL orL
    by_cases h2 : cmpI a.2 b.2 = 0 <;> simp [h2]
  · rw [if_pos h, if_neg h]
theorem cmpI_zero {a b : Int} : cmpI a b = 0 ↔ a = b := by unfold cmpI; repeat' split
                                                           all_goals omega
theorem cmpI_lt {a b : Int} : cmpI a b < 0 ↔ a < b := by unfold cmpI; repeat' split
                                                         all_goals omega
theorem cmpAd_zero {a b : Ad} : cmpAd a b = 0 ↔ a = b := by
  rw [cmpAd_eq]
  constructor
  · intro h
    split at h
    · rename_i h1
      exact Prod.ext (byt_inj (cb_zero h1)) (cmpI_zero.1 h)
    · rename_i h1; exact absurd h h1
  · rintro rfl
    rw [if_pos (cb_refl _)]; exact cmpI_zero.2 rfl
def adLt (a b : Ad) : Prop := cmpAd a b < 0
theorem own_litA (b : Nat) (l : List Int) (h : l.length ≤ 1000) : Own (some b) l.length l.length 1 (ivs l) [] := ⟨by rw [ivs_len]; omega, by rw [ivs_len]; simp, Nat.le_refl _, by omega, fun e => by cases e⟩
theorem adLt_iff {s s2 : ByteArray} {p p2 : Int} : adLt (s, p) (s2, p2) ↔ Go.Lib.compareBytes (byt s) (byt s2) < 0 ∨ (byt s = byt s2 ∧ p < p2) := by
  unfold adLt
  rw [cmpAd_eq]
  dsimp only
  by_cases h : Go.Lib.compareBytes (byt s) (byt s2) = 0
  · rw [if_pos h, cmpI_lt]
    refine ⟨fun h2 => .inr ⟨cb_zero h, h2⟩, fun h2 => ?_⟩
    rcases h2 with h1 | ⟨_, h2⟩
    · omega
    · exact h2
  · rw [if_neg h]
    refine ⟨.inl, fun h2 => ?_⟩
    rcases h2 with h1 | ⟨e, _⟩
    · exact h1
    · exact absurd (by rw [e]; exact cb_refl _) h
theorem adLt_irrefl (a : Ad) : ¬ adLt a a := by unfold adLt; rw [cmpAd_zero.2 rfl]; decide
theorem cmpAd_neg (a b : Ad) : cmpAd a b < 0 ∨ cmpAd a b = 0 ∨ cmpAd b a < 0 := by
  rw [cmpAd_eq, cmpAd_eq, cb_neg (byt b.1) (byt a.1)]
  rcases cb_range (byt a.1) (byt b.1) with h | h | h <;> rw [h]
  · left; rw [if_neg (by decide)]; decide
  · simp only [Int.neg_zero, if_true]
    unfold cmpI
    repeat' split
    all_goals omega
  · right; right; rw [if_neg (by decide)]; decide
theorem adLt_trans {a b c : Ad} (h1 : adLt a b) (h2 : adLt b c) : adLt a c := by
  unfold adLt at *
  rw [cmpAd_eq] at *
  split at h1
  · rename_i e1
    have e1 := cb_zero e1
    rw [e1]
    split at h2
    · rename_i e2
      rw [if_pos e2]
      rw [cmpI_lt] at *; omega
    · rename_i e2; rw [if_neg e2]; exact h2
  · rename_i e1
    split at h2
    · rename_i e2
      rw [← cb_zero e2, if_neg e1]; exact h1
    · rename_i e2
      have := cb_trans h1 h2
      rw [if_neg (by omega)]; exact this
theorem adLt_tri (a b : Ad) : adLt a b ∨ a = b ∨ adLt b a := by
  rcases cmpAd_neg a b with h | h | h
  · exact .inl h
  · exact .inr (.inl (cmpAd_zero.1 h))
  · exact .inr (.inr h)

end Go.Proofs.Ytiomimjjdbijmaa
