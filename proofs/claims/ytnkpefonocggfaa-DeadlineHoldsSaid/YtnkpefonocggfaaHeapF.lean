/-
  Chapter 10 (deadline), part HeapF: contracts of functions that the laws call, each for the heap it names.
-/
import Derived.Test.YtnkpefonocggfaaHeapE
set_option linter.unusedVariables false
set_option maxRecDepth 20000
namespace Go.Proofs.Ytnkpefonocggfaa


theorem hnew_ok : Spec Try.prog 55 [] [] (fun r H' => ∃ g : HM, r = ptrH g.p ∧ H' = gH g ∧ HIs [] g ∧ g.n = 0) :=
  hnew_x.mono fun r H' ⟨p, bx, e1, e2⟩ => ⟨⟨p, bx, none, 0, 0, [], 0, none, 0, 0, [], [], []⟩, e1, e2, ⟨hp_new, rfl, rfl, Own.empty 4, Own.empty 1⟩, rfl⟩
/-- The first element. -/
structure IsMin (W : List WE) (w : WE) : Prop where
  mem : w ∈ W
  min : ∀ u ∈ W, w.k < u.k ∨ (w.k = u.k ∧ w.s ≤ u.s)
theorem HIs.smem {W : List WE} {g : HM} (hg : HIs W g) {a b : WE} (ha : a ∈ W) (hb : b ∈ W) (h : a.s = b.s) : a = b := by
  have hn := hg.hp.inc
  rw [List.pairwise_iff_getElem] at hn
  obtain ⟨i, hi, rfl⟩ := List.mem_iff_getElem.1 ha
  obtain ⟨j, hj, rfl⟩ := List.mem_iff_getElem.1 hb
  rcases Nat.lt_trichotomy i j with e | e | e
  · have := hn i j hi hj e; omega
  · subst e; rfl
  · have := hn j i hj hi e; omega
theorem IsMin.one {W : List WE} {g : HM} (hg : HIs W g) {a b : WE} (ha : IsMin W a) (hb : IsMin W b) : a = b := by
  have h1 := ha.min b hb.mem
  have h2 := hb.min a ha.mem
  exact hg.smem ha.mem hb.mem (by omega)
theorem HIs.top {W : List WE} {g : HM} (hg : HIs W g) (h : W ≠ []) : ∃ w, IsMin W w ∧ g.l[0]? = some w.h := by
  have hl : 0 < g.l.length := by rw [hg.hp.len]; exact List.length_pos_iff.2 h
  obtain ⟨w, hw, e, hm⟩ := hg.hp.top (List.getElem?_eq_getElem hl)
  exact ⟨w, ⟨hw, hm⟩, by rw [List.getElem?_eq_getElem hl, e]⟩
theorem htop_nil (g : HM) (hg : HIs [] g) : Spec Try.prog 57 [ptrH g.p] (gH g) (fun r H' => r = .tuple #[.int .i64 0, .int .i64 9] ∧ H' = gH g) := by
  obtain ⟨p, bx, oe, ne, ce, te, n, ol, nl, c, tl, E, l⟩ := g
  obtain ⟨hp, hne, hnl, hoe, hol⟩ := hg
  dsimp only at hp hne hnl hoe hol
  exact htop_none p bx oe ne ce te n ol nl c tl E l (by rw [← hnl, hp.len]; rfl)
theorem htop_w (g : HM) (W : List WE) (hg : HIs W g) (w : WE) (hw : IsMin W w) : Spec Try.prog 57 [ptrH g.p] (gH g) (fun r H' => r = .tuple #[.int .i64 (w.h : Int), .int .i64 0] ∧ H' = gH g) := by
  obtain ⟨u, hu, hl⟩ := hg.top (List.ne_nil_of_mem hw.mem)
  obtain rfl := hw.one hg hu
  obtain ⟨p, bx, oe, ne, ce, te, n, ol, nl, c, tl, E, l⟩ := g
  obtain ⟨hp, hne, hnl, hoe, hol⟩ := hg
  dsimp only at hp hne hnl hoe hol
  exact htop_x p bx oe ne ce te n ol nl c tl E l W hp hne hnl hoe hol w.h hl
theorem Hp.out {W : List WE} {E : List El} {l : List Nat} {n : Nat} (hp : Hp W E l n) {i : Int} (h : ∀ w ∈ W, (w.h : Int) ≠ i) : ∀ h : Nat, i = (h : Int) → h ∉ l := fun k e hm => by
  obtain ⟨w, hw, e2⟩ := (hp.mem k).1 hm
  exact h w hw (by rw [e2, e])
theorem Hp.inn {W : List WE} {E : List El} {l : List Nat} {n : Nat} (hp : Hp W E l n) {w : WE} (h : w ∈ W) : w.h ∈ l := (hp.mem _).2 ⟨w, h, rfl⟩
theorem hget_no (g : HM) (W : List WE) (hg : HIs W g) (i : Int) (h : ∀ w ∈ W, (w.h : Int) ≠ i) : Spec Try.prog 58 [ptrH g.p, .int .i64 i] (gH g) (fun r H' => r = .tuple #[.int .u64 0, .int .i64 0, .int .i64 9] ∧ H' = gH g) := by
  obtain ⟨p, bx, oe, ne, ce, te, n, ol, nl, c, tl, E, l⟩ := g
  obtain ⟨hp, hne, hnl, hoe, hol⟩ := hg
  dsimp only at hp hne hnl hoe hol
  exact hget_none p bx oe ne ce te n ol nl c tl E l W hp hne hnl hoe hol i (hp.out h)
theorem hget_w (g : HM) (W : List WE) (hg : HIs W g) (w : WE) (hw : w ∈ W) : Spec Try.prog 58 [ptrH g.p, .int .i64 (w.h : Int)] (gH g) (fun r H' => r = .tuple #[.int .u64 (w.k : Int), .int .i64 w.v, .int .i64 0] ∧ H' = gH g) := by
  obtain ⟨p, bx, oe, ne, ce, te, n, ol, nl, c, tl, E, l⟩ := g
  obtain ⟨hp, hne, hnl, hoe, hol⟩ := hg
  dsimp only at hp hne hnl hoe hol
  obtain ⟨x, hx, h1, h2, h3⟩ := hp.el w hw
  rw [← h1, ← h2]
  exact hget_x p bx oe ne ce te n ol nl c tl E l W hp hne hnl hoe hol w.h (hp.inn hw) x hx
theorem hrem_no (g : HM) (W : List WE) (hg : HIs W g) (i : Int) (h : ∀ w ∈ W, (w.h : Int) ≠ i) : Spec Try.prog 60 [ptrH g.p, .int .i64 i] (gH g) (fun r H' => r = .int .i64 9 ∧ H' = gH g) := by
  obtain ⟨p, bx, oe, ne, ce, te, n, ol, nl, c, tl, E, l⟩ := g
  obtain ⟨hp, hne, hnl, hoe, hol⟩ := hg
  dsimp only at hp hne hnl hoe hol
  exact hrem_none p bx oe ne ce te n ol nl c tl E l W hp hne hnl hoe hol i (hp.out h)
theorem hrem_w (g : HM) (W : List WE) (hg : HIs W g) (w : WE) (hw : w ∈ W) : Spec Try.prog 60 [ptrH g.p, .int .i64 (w.h : Int)] (gH g) (fun r H' => ∃ g' : HM, r = .int .i64 0 ∧ H' = gH g' ∧ g'.p = g.p ∧ g'.n = g.n ∧ HIs (wremove W w.h) g') := by
  obtain ⟨p, bx, oe, ne, ce, te, n, ol, nl, c, tl, E, l⟩ := g
  obtain ⟨hp, hne, hnl, hoe, hol⟩ := hg
  dsimp only at hp hne hnl hoe hol
  exact hrem_x p bx oe ne ce te n ol nl c tl E l W hp hne hnl hoe hol w.h (hp.inn hw)
theorem hcopy_ok (g : HM) (W : List WE) (hg : HIs W g) : Spec Try.prog 67 [ptrH g.p] (gH g) (fun r H' => ∃ g' : HM, r = ptrH g'.p ∧ H' = gH g' ++ gH g ∧ g'.n = g.n ∧ HIs W g') := by
  obtain ⟨p, bx, oe, ne, ce, te, n, ol, nl, c, tl, E, l⟩ := g
  obtain ⟨hp, hne, hnl, hoe, hol⟩ := hg
  dsimp only at hp hne hnl hoe hol
  exact hcopy_x p bx oe ne ce te n ol nl c tl E l W hp hne hnl hoe hol
/-- The smallest number that is no handle. -/
structure IsFree (W : List WE) (f : Nat) : Prop where
  out : ∀ w ∈ W, w.h ≠ f
  below : ∀ j, j < f → ∃ w ∈ W, w.h = j
theorem IsFree.one {W : List WE} {a b : Nat} (ha : IsFree W a) (hb : IsFree W b) : a = b := by
  rcases Nat.lt_trichotomy a b with e | e | e
  · obtain ⟨w, hw, h⟩ := hb.below a e; exact absurd h (ha.out w hw)
  · exact e
  · obtain ⟨w, hw, h⟩ := ha.below b e; exact absurd h (hb.out w hw)
theorem hpush_no (g : HM) (W : List WE) (hg : HIs W g) (h : 1024 ≤ W.length) (k : Nat) (v : Int) : Spec Try.prog 61 [ptrH g.p, .int .u64 (k : Int), .int .i64 v] (gH g) (fun r H' => r = .tuple #[.int .i64 0, .int .i64 7] ∧ H' = gH g) := by
  obtain ⟨p, bx, oe, ne, ce, te, n, ol, nl, c, tl, E, l⟩ := g
  obtain ⟨hp, hne, hnl, hoe, hol⟩ := hg
  dsimp only at hp hne hnl hoe hol
  exact hpush_full p bx oe ne ce te n ol nl c tl E l (by rw [← hnl, hp.len]; exact h) k v
theorem hpush_ok (g : HM) (W : List WE) (hg : HIs W g) (h : W.length < 1024) (hb : g.n + 1 < 9000000000000000000) (f : Nat) (hf : IsFree W f) (k : Nat) (v : Int) : Spec Try.prog 61 [ptrH g.p, .int .u64 (k : Int), .int .i64 v] (gH g)
    (fun r H' => ∃ g' : HM, r = .tuple #[.int .i64 (f : Int), .int .i64 0] ∧ H' = gH g' ∧ g'.p = g.p ∧ g'.n = g.n + 1 ∧ HIs (W ++ [⟨f, v, k, g.n + 1⟩]) g') := by
  obtain ⟨p, bx, oe, ne, ce, te, n, ol, nl, c, tl, E, l⟩ := g
  obtain ⟨hp, hne, hnl, hoe, hol⟩ := hg
  dsimp only at hp hne hnl hoe hol
  have e : fr E = f := IsFree.one ⟨fun w hw e => hp.fr_out (e ▸ hp.inn hw), fun j hj => (hp.mem j).1 (hp.below hj)⟩ hf
  subst e
  exact hpush_x p bx oe ne ce te n ol nl c tl E l W hp hne hnl hoe hol (by rw [← hnl, hp.len]; exact h) hb k v

end Go.Proofs.Ytnkpefonocggfaa
