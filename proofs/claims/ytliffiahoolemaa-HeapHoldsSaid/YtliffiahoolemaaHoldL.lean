/-
  Chapter 02 (heap), part HoldL: contracts of functions that the laws call, each for the heap it names.
-/
import Derived.Test.YtliffiahoolemaaBoth
import Derived.Test.YtliffiahoolemaaKnown
import Derived.Test.YtliffiahoolemaaSLArray
set_option linter.unusedVariables false
set_option maxRecDepth 20000
namespace Go.Proofs.Ytliffiahoolemaa


abbrev pV (f : Nat → Nat) : List Value := arrV 64 (fun j => .int .i64 ((f j : Nat) : Int))
def upd (f : Nat → Nat) (a v : Nat) : Nat → Nat := fun j => if j = a then v else f j
theorem p_put {f : Nat → Nat} {x v : Nat} (hx : x < 64) : putAt (pV f) (0 + x * 1) [.int .i64 ((v : Nat) : Int)] = pV (upd f x v) :=
  arr_put hx _ (by simp [upd]) (fun j _ hj => by simp [upd, hj])
theorem p_put0 {f : Nat → Nat} {x : Nat} (hx : x < 64) : putAt (pV f) (0 + x * 1) [.int .i64 0] = pV (upd f x 0) := p_put (v := 0) hx
theorem IsFree.le {W : List WE} {f : Nat} (h : IsFree W f) : f ≤ W.length := by
  have : (List.range f).length ≤ (hds W).length := List.Nodup.length_le_of_subset List.nodup_range fun j hj => by
    obtain ⟨w, hw, e⟩ := h.below j (List.mem_range.1 hj)
    exact List.mem_map.2 ⟨w, hw, e⟩
  rw [List.length_range, List.length_map] at this; exact this
/-- When the elements were pushed. -/
structure HdOk (W : List WE) (f : Nat → Nat) (k : Nat) : Prop where
  inn : ∀ w ∈ W, w.h < 64 ∧ 0 < f w.h ∧ f w.h ≤ k ∧ w.v = (f w.h : Int) - 1
  bck : ∀ j, j < 64 → f j ≠ 0 → ∃ w ∈ W, w.h = j
  ord : W.Pairwise (fun a b => f a.h < f b.h)
theorem HdOk.new : HdOk [] (fun _ => 0) 0 := ⟨fun w hw => (by cases hw), fun j _ h => absurd rfl h, .nil⟩
theorem HdOk.zero {W : List WE} {f : Nat → Nat} {k a : Nat} (h : HdOk W f k) (ha : a < 64) (hf : IsFree W a) : f a = 0 := by
  by_cases e : f a = 0
  · exact e
  · obtain ⟨w, hw, e2⟩ := h.bck a ha e
    exact absurd e2 (hf.out w hw)
theorem HdOk.push {W : List WE} {f : Nat → Nat} {k a : Nat} (h : HdOk W f k) (ha : a < 64) (hf : IsFree W a) (key s : Nat) : HdOk (W ++ [⟨a, (k : Int), key, s⟩]) (upd f a (k + 1)) (k + 1) := by
  have hne : ∀ w ∈ W, upd f a (k + 1) w.h = f w.h := fun w hw => by unfold upd; rw [if_neg (hf.out w hw)]
  have hself : upd f a (k + 1) a = k + 1 := by simp [upd]
  refine ⟨fun w hw => ?_, fun j hj hnz => ?_, ?_⟩
  · rcases List.mem_append.1 hw with h1 | h1
    · rw [hne w h1]
      obtain ⟨a1, a2, a3, a4⟩ := h.inn w h1
      exact ⟨a1, a2, by omega, a4⟩
    · rw [List.mem_singleton] at h1
      subst h1
      rw [hself]
      exact ⟨ha, by omega, by omega, by dsimp only; omega⟩
  · by_cases e : j = a
    · exact ⟨_, List.mem_append_right _ (List.mem_singleton.2 rfl), e.symm⟩
    · unfold upd at hnz
      rw [if_neg e] at hnz
      obtain ⟨w, hw, e2⟩ := h.bck j hj hnz
      exact ⟨w, List.mem_append_left _ hw, e2⟩
  · rw [List.pairwise_append]
    refine ⟨(List.Pairwise.and_mem.1 h.ord).imp fun {x y} ⟨hx, hy, hlt⟩ => by rw [hne x hx, hne y hy]; exact hlt, List.pairwise_singleton _ _, fun x hx y hy => ?_⟩
    rw [List.mem_singleton] at hy
    subst hy
    rw [hne x hx, hself]
    have := (h.inn x hx).2.2.1
    omega
theorem HdOk.up {W : List WE} {f : Nat → Nat} {k : Nat} (h : HdOk W f k) : HdOk W f (k + 1) := ⟨fun w hw => by obtain ⟨a1, a2, a3, a4⟩ := h.inn w hw; exact ⟨a1, a2, by omega, a4⟩, h.bck, h.ord⟩
theorem HdOk.chg {W : List WE} {f : Nat → Nat} {k : Nat} (h : HdOk W f k) (a key : Nat) : HdOk (wchange W a key) f k := by
  refine ⟨fun w hw => ?_, fun j hj hnz => ?_, ?_⟩
  · obtain ⟨u, hu, rfl⟩ := List.mem_map.1 hw
    have := h.inn u hu
    by_cases e : u.h = a <;> simp only [e, if_true, if_false] <;> first | exact this | (rw [← e]; exact this)
  · obtain ⟨w, hw, e⟩ := h.bck j hj hnz
    refine ⟨_, List.mem_map.2 ⟨w, hw, rfl⟩, ?_⟩
    by_cases e2 : w.h = a
    · rw [if_pos e2]; exact e
    · rw [if_neg e2]; exact e
  · rw [wchange, List.pairwise_map]
    refine h.ord.imp fun {x y} hxy => ?_
    have e : ∀ u : WE, (if u.h = a then { u with k := key } else u).h = u.h := fun u => by by_cases q : u.h = a <;> simp [q]
    rw [e, e]; exact hxy
theorem HdOk.rem {W : List WE} {f : Nat → Nat} {k : Nat} (h : HdOk W f k) (a : Nat) : HdOk (wremove W a) (upd f a 0) k := by
  have hne : ∀ w ∈ wremove W a, w ∈ W ∧ upd f a 0 w.h = f w.h := fun w hw => by
    obtain ⟨h1, h2⟩ := List.mem_filter.1 hw
    exact ⟨h1, by unfold upd; rw [if_neg (of_decide_eq_true h2)]⟩
  refine ⟨fun w hw => ?_, fun j hj hnz => ?_, ?_⟩
  · obtain ⟨h1, h2⟩ := hne w hw
    rw [h2]; exact h.inn w h1
  · by_cases e : j = a
    · subst e; simp [upd] at hnz
    · unfold upd at hnz
      rw [if_neg e] at hnz
      obtain ⟨w, hw, e2⟩ := h.bck j hj hnz
      exact ⟨w, List.mem_filter.2 ⟨hw, decide_eq_true (by rw [e2]; exact e)⟩, e2⟩
  · refine (List.Pairwise.and_mem.1 (h.ord.filter _)).imp fun {x y} ⟨hx, hy, hlt⟩ => ?_
    rw [(hne x hx).2, (hne y hy).2]; exact hlt
theorem HdOk.mono {W : List WE} {f : Nat → Nat} {k : Nat} {g : HM} (h : HdOk W f k) (hg : HIs W g) {a b : WE} (ha : a ∈ W) (hb : b ∈ W) (hs : a.s ≤ b.s) : f a.h ≤ f b.h := by
  obtain ⟨i, hi, rfl⟩ := List.mem_iff_getElem.1 ha
  obtain ⟨j, hj, rfl⟩ := List.mem_iff_getElem.1 hb
  have h1 := List.pairwise_iff_getElem.1 h.ord
  have h2 := List.pairwise_iff_getElem.1 hg.hp.inc
  rcases Nat.lt_trichotomy i j with e | e | e
  · exact Nat.le_of_lt (h1 i j hi hj e)
  · subst e; exact Nat.le_refl _
  · have := h2 j i hj hi e; omega
structure HW2 where
  k : Nat
  W : List WE
  f : Nat → Nat
  g : HM
structure RW2 where
  W : List WE
  f : Nat → Nat
  g : HM
  last : Nat
  bef : Nat
/-- What comes out last. -/
structure Out (y : RW2) (k p : Nat) : Prop where
  hg : HIs y.W y.g
  hd : HdOk y.W y.f k
  lst : ∀ w ∈ y.W, y.last < w.k ∨ (y.last = w.k ∧ y.bef ≤ y.f w.h)
  p : y.g.p = p
theorem Out.next {y : RW2} {k p : Nat} (h : Out y k p) {u : WE} (hu : IsMin y.W u) {g2 : HM} (hg2 : HIs (wremove y.W u.h) g2) (hp : g2.p = y.g.p) : Out ⟨wremove y.W u.h, upd y.f u.h 0, g2, u.k, y.f u.h⟩ k p := by
  refine ⟨hg2, h.hd.rem u.h, fun w hw => ?_, hp.trans h.p⟩
  obtain ⟨h1, h2⟩ := List.mem_filter.1 hw
  have hne : w.h ≠ u.h := of_decide_eq_true h2
  have e : upd y.f u.h 0 w.h = y.f w.h := by unfold upd; rw [if_neg hne]
  dsimp only
  rw [e]
  rcases hu.min w h1 with q | ⟨q1, q2⟩
  · exact .inl q
  · exact .inr ⟨q1, h.hd.mono h.hg hu.mem h1 q2⟩
theorem wr_len {W : List WE} {u : WE} (hu : u ∈ W) : (wremove W u.h).length < W.length := by
  refine Nat.lt_of_le_of_ne (List.length_filter_le _ _) fun e => ?_
  have := List.length_filter_eq_length_iff.1 e u hu
  exact of_decide_eq_true this rfl
theorem wc_len (W : List WE) (a k : Nat) : (wchange W a k).length = W.length := List.length_map ..
theorem wr_le (W : List WE) (a : Nat) : (wremove W a).length ≤ W.length := List.length_filter_le _ _

end Go.Proofs.Ytliffiahoolemaa
