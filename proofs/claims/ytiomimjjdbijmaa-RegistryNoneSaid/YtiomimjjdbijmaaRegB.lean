/-
  Chapter 17 (registry), part RegB: contracts of functions that the laws call, each for the heap it names.
-/
import Derived.Test.YtiomimjjdbijmaaRegL
set_option linter.unusedVariables false
set_option maxRecDepth 20000
namespace Go.Proofs.Ytiomimjjdbijmaa


theorem frN_out {W : List Bd} (hl : W.length ≤ 128) (name : ByteArray) : frN W name < 129 ∧ fpt name (frN W name) ∉ kys W := by
  have key : ∀ n, n ≤ 129 → (∃ i, i < n ∧ (∀ j, j < i → fpt name j ∈ kys W) ∧ fpt name i ∉ kys W) ∨ ∀ j, j < n → fpt name j ∈ kys W := fun n => by
    induction n with
    | zero => intro _; exact .inr fun j hj => by omega
    | succ n ih =>
      intro h
      rcases ih (by omega) with ⟨i, h1, h2, h3⟩ | h1
      · exact .inl ⟨i, by omega, h2, h3⟩
      · by_cases h2 : fpt name n ∈ kys W
        · refine .inr fun j hj => ?_
          rcases Nat.lt_or_ge j n with h3 | h3
          · exact h1 j h3
          · obtain rfl : j = n := by omega
            exact h2
        · exact .inl ⟨n, by omega, h1, h2⟩
  rcases key 129 (Nat.le_refl _) with ⟨i, h1, h2, h3⟩ | h
  · rw [frN_eq h1 h2 h3]; exact ⟨h1, h3⟩
  · exact (fr_room hl h).elim
def insB : List Bd → Bd → List Bd
  | [], x => [x]
  | y :: r, x => if cmpAd y.1 x.1 < 0 then y :: insB r x else x :: y :: r
def insP : List Bd → Ad → Nat
  | [], _ => 0
  | y :: r, a => if cmpAd y.1 a < 0 then insP r a + 1 else 0
theorem insB_perm (x : Bd) : ∀ W : List Bd, (x :: W).Perm (insB W x)
  | [] => .refl _
  | y :: r => by
    unfold insB
    split
    · exact (List.Perm.swap ..).trans (.cons _ (insB_perm x r))
    · exact .refl _
theorem insB_srt {x : Bd} : ∀ {W : List Bd}, SrtB W → x.1 ∉ kys W → SrtB (insB W x)
  | [], _, _ => by unfold insB SrtB; simp
  | y :: r, h, hx => by
    obtain ⟨h1, h2⟩ := List.pairwise_cons.1 h
    unfold insB
    split
    · rename_i hlt
      refine List.pairwise_cons.2 ⟨fun z hz => ?_, insB_srt h2 (fun h => hx (List.mem_cons_of_mem _ h))⟩
      rcases List.mem_cons.1 ((insB_perm x r).mem_iff.2 hz) with rfl | hz
      · exact hlt
      · exact h1 z hz
    · rename_i hlt
      have hxy : adLt x.1 y.1 := by
        rcases adLt_tri y.1 x.1 with h3 | h3 | h3
        · exact absurd h3 hlt
        · exact absurd (by rw [← h3]; exact List.mem_cons_self ..) hx
        · exact h3
      refine List.pairwise_cons.2 ⟨fun z hz => ?_, h⟩
      rcases List.mem_cons.1 hz with rfl | hz
      · exact hxy
      · exact adLt_trans hxy (h1 z hz)
theorem insB_len (x : Bd) (W : List Bd) : (insB W x).length = W.length + 1 := by rw [← (insB_perm x W).length_eq]; rfl
theorem insB_at (x : Bd) : ∀ W : List Bd, insB W x = W.take (insP W x.1) ++ x :: W.drop (insP W x.1)
  | [] => rfl
  | y :: r => by
    unfold insB insP
    split
    · rw [insB_at x r]; rfl
    · rfl
theorem insP_eq {a : Ad} : ∀ {W : List Bd} {k : Nat}, (∀ j z, j < k → W[j]? = some z → adLt z.1 a) → (k = W.length ∨ ∃ z, W[k]? = some z ∧ ¬ adLt z.1 a) → insP W a = k
  | [], k, _, h2 => by
    rcases h2 with h | ⟨z, hz, _⟩
    · simpa [insP] using h.symm
    · simp at hz
  | y :: r, 0, h1, h2 => by
    rcases h2 with h | ⟨z, hz, h⟩
    · simp at h
    · obtain rfl : y = z := by simpa using hz
      unfold insP; rw [if_neg (show ¬ cmpAd y.1 a < 0 from h)]
  | y :: r, k + 1, h1, h2 => by
    unfold insP
    rw [if_pos (show cmpAd y.1 a < 0 from h1 0 y (Nat.succ_pos k) rfl)]
    rw [insP_eq (W := r) (k := k) (fun j z hj hz => h1 (j + 1) z (by omega) (by simpa using hz)) (by
      rcases h2 with h | ⟨z, hz, h⟩
      · left; simpa using h
      · right; exact ⟨z, by simpa using hz, h⟩)]
/-! Bind -/
def bndA (W : List Bd) (a : Ad) : Ad := if a.2 = 0 then fpt a.1 (frN W a.1) else a
def bndE (W : List Bd) (a : Ad) (v : Int) : Int := if validA a = false ∨ v < 0 then 2 else if (kys W).any (fun x => decide (x = bndA W a)) = true then 11 else if 128 ≤ W.length then 7 else 0
def bndW (W : List Bd) (a : Ad) (v : Int) : List Bd := if bndE W a v = 0 then insB W (bndA W a, v) else W
def bndR (W : List Bd) (a : Ad) (v : Int) : Ad := if bndE W a v = 0 then bndA W a else (⟨#[]⟩, 0)
section
variable {W : List Bd} {a : Ad} {v : Int}
theorem bnd_arg (h : validA a = false ∨ v < 0) : bndE W a v = 2 ∧ bndW W a v = W ∧ bndR W a v = (⟨#[]⟩, 0) := by
  have e : bndE W a v = 2 := by unfold bndE; rw [if_pos h]
  unfold bndW bndR; rw [e]; exact ⟨rfl, rfl, rfl⟩
theorem bnd_busy (h1 : validA a = true) (h2 : ¬ v < 0) (h3 : bndA W a ∈ kys W) : bndE W a v = 11 ∧ bndW W a v = W ∧ bndR W a v = (⟨#[]⟩, 0) := by
  have e : bndE W a v = 11 := by unfold bndE; rw [if_neg (by simp [h1, h2]), if_pos (any_iff.2 h3)]
  unfold bndW bndR; rw [e]; exact ⟨rfl, rfl, rfl⟩
theorem bnd_full (h1 : validA a = true) (h2 : ¬ v < 0) (h3 : bndA W a ∉ kys W) (h4 : 128 ≤ W.length) : bndE W a v = 7 ∧ bndW W a v = W ∧ bndR W a v = (⟨#[]⟩, 0) := by
  have e : bndE W a v = 7 := by unfold bndE; rw [if_neg (by simp [h1, h2]), if_neg (fun e => h3 (any_iff.1 e)), if_pos h4]
  unfold bndW bndR; rw [e]; exact ⟨rfl, rfl, rfl⟩
theorem bnd_ok (h1 : validA a = true) (h2 : ¬ v < 0) (h3 : bndA W a ∉ kys W) (h4 : ¬ 128 ≤ W.length) : bndE W a v = 0 ∧ bndW W a v = insB W (bndA W a, v) ∧ bndR W a v = bndA W a := by
  have e : bndE W a v = 0 := by unfold bndE; rw [if_neg (by simp [h1, h2]), if_neg (fun e => h3 (any_iff.1 e)), if_neg h4]
  unfold bndW bndR; rw [e]; exact ⟨rfl, rfl, rfl⟩
end
theorem bndA_0 {W : List Bd} {s : ByteArray} {p : Int} (h : p = 0) : bndA W (s, p) = fpt s (frN W s) := by unfold bndA; rw [if_pos h]
theorem bndA_p {W : List Bd} {s : ByteArray} {p : Int} (h : ¬ p = 0) : bndA W (s, p) = (s, p) := by unfold bndA; rw [if_neg h]
theorem RgIs.add {W : List Bd} {r : Rg} (h : RgIs W r) {a : Ad} {v : Int} {es' : Array MapEntry} (hn : a ∉ kys W) (hl : ¬ 128 ≤ W.length) (hM : Mk adV evI es' (r.c + 1) ((a, v) :: W)) : RgIs (insB W (a, v)) ⟨r.p, r.mb, es', r.c + 1⟩ :=
  ⟨hM.to (insB_perm _ _), insB_srt h.srt hn, by rw [insB_len]; omega⟩

end Go.Proofs.Ytiomimjjdbijmaa
