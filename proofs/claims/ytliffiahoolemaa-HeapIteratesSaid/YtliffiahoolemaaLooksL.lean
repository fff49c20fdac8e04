/-
  Chapter 02 (heap), part LooksL: contracts of functions that the laws call, each for the heap it names.
-/
import Derived.Test.YtliffiahoolemaaRefC
import Derived.Test.YtliffiahoolemaaSLArray
set_option linter.unusedVariables false
set_option maxRecDepth 20000
namespace Go.Proofs.Ytliffiahoolemaa


structure LW2 where
  k : Nat
  f : Nat → Nat
abbrev plV (f : Nat → Nat) : List Value := arrV 1025 (fun j => .int .i64 ((f j : Nat) : Int))
/-- Where each handle is in the order. -/
def PlOk (l : List Nat) (k : Nat) (f : Nat → Nat) : Prop := ∀ i h, i < k → l[i]? = some h → f h = i + 1
theorem pl_next {l : List Nat} (hn : l.Nodup) {k x : Nat} {f : Nat → Nat} (h : PlOk l k f) (hx : l[k]? = some x) : PlOk l (k + 1) (fun j => if j = x then k + 1 else f j) := by
  intro i y hi hy
  obtain ⟨h1, e1⟩ := List.getElem?_eq_some_iff.1 hx
  obtain ⟨h2, e2⟩ := List.getElem?_eq_some_iff.1 hy
  rw [List.Nodup, List.pairwise_iff_getElem] at hn
  by_cases e : i = k
  · subst e
    rw [hx] at hy
    obtain rfl := Option.some.inj hy
    dsimp only; rw [if_pos rfl]
  · have hne : y ≠ x := by rw [← e1, ← e2]; exact hn i k h2 h1 (by omega)
    dsimp only; rw [if_neg hne]
    exact h i y (by omega) hy
theorem pl_put {f : Nat → Nat} {x k : Nat} (hx : x < 1025) : putAt (plV f) (0 + x * 1) [.int .i64 ((k + 1 : Nat) : Int)] = plV (fun j => if j = x then k + 1 else f j) :=
  arr_put hx _ (by dsimp only; rw [if_pos rfl]) (fun j _ hj => by dsimp only; rw [if_neg hj])
theorem pl_lt {W O : List WE} (hO : IsOrd W O) {f : Nat → Nat} (hf : PlOk (hds O) (hds O).length f) {a b : WE} (ha : a ∈ W) (hb : b ∈ W) (h : lt2 a b) : f a.h < f b.h := by
  obtain ⟨i, hi⟩ := List.getElem?_of_mem (hO.perm.mem_iff.2 ha)
  obtain ⟨j, hj⟩ := List.getElem?_of_mem (hO.perm.mem_iff.2 hb)
  have hil := (List.getElem?_eq_some_iff.1 hi).1
  have hjl := (List.getElem?_eq_some_iff.1 hj).1
  have e1 := hf i a.h (by rw [List.length_map]; exact hil) (by rw [List.getElem?_map, hi]; rfl)
  have e2 := hf j b.h (by rw [List.length_map]; exact hjl) (by rw [List.getElem?_map, hj]; rfl)
  rw [e1, e2]
  rcases Nat.lt_trichotomy i j with q | q | q
  · omega
  · subst q
    rw [hi] at hj
    obtain rfl := Option.some.inj hj
    exact absurd h (lt2_irrefl a)
  · exfalso
    have ho := hO.ord
    rw [List.pairwise_iff_getElem] at ho
    have h3 := ho j i hjl hil q
    obtain ⟨_, rfl⟩ := List.getElem?_eq_some_iff.1 hi
    obtain ⟨_, rfl⟩ := List.getElem?_eq_some_iff.1 hj
    exact lt2_asymm h h3
theorem pl_pos {W O : List WE} (hO : IsOrd W O) {f : Nat → Nat} (hf : PlOk (hds O) (hds O).length f) {a : WE} (ha : a ∈ W) : 0 < f a.h ∧ f a.h ≤ W.length := by
  obtain ⟨i, hi⟩ := List.getElem?_of_mem (hO.perm.mem_iff.2 ha)
  have hil := (List.getElem?_eq_some_iff.1 hi).1
  have e1 := hf i a.h (by rw [List.length_map]; exact hil) (by rw [List.getElem?_map, hi]; rfl)
  rw [hO.len] at hil
  omega
theorem HIs.out {W : List WE} {g : HM} (hg : HIs W g) {w : WE} (hw : w ∈ W) : w.h < 1025 := by
  obtain ⟨x, hx, _⟩ := hg.hp.el w hw
  have := (List.getElem?_eq_some_iff.1 hx).1
  have := hg.hp.ecap
  omega
/-- A child comes behind its parent. -/
theorem HIs.par {W : List WE} {g : HM} (hg : HIs W g) {i x y : Nat} (h0 : 0 < i) (hx : g.l[i]? = some x) (hy : g.l[(i - 1) / 4]? = some y) : ∃ a b, a ∈ W ∧ b ∈ W ∧ a.h = y ∧ b.h = x ∧ lt2 a b := by
  have hil := (List.getElem?_eq_some_iff.1 hx).1
  obtain ⟨b, xb, hb, hbh, hxb, bk, _, bs⟩ := hg.hp.in (List.mem_of_getElem? hx)
  obtain ⟨a, xa, ha, hah, hxa, ak, _, asq⟩ := hg.hp.in (List.mem_of_getElem? hy)
  refine ⟨a, b, ha, hb, hah, hbh, ?_⟩
  have ho := hg.hp.ord i h0 hil
  rw [rkl, rkl, gt0_of hx, gt0_of hy, rk_of hxa, rk_of hxb] at ho
  have b1 := hg.hp.st.sq _ _ hxa
  have b2 := hg.hp.st.sq _ _ hxb
  have hne : a ≠ b := fun e => by
    subst e
    have hn := hg.hp.st.nodup
    rw [List.Nodup, List.pairwise_iff_getElem] at hn
    obtain ⟨h1, e1⟩ := List.getElem?_eq_some_iff.1 hx
    obtain ⟨h2, e2⟩ := List.getElem?_eq_some_iff.1 hy
    exact hn _ _ h2 h1 (by omega) (by rw [e1, e2, ← hah, ← hbh])
  have hsne : a.s ≠ b.s := fun e => hne (hg.smem ha hb e)
  unfold lt2; omega

end Go.Proofs.Ytliffiahoolemaa
