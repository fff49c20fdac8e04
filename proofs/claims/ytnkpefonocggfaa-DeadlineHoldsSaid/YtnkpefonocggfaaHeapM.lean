/-
  Chapter 10 (deadline), part HeapM: contracts of functions that the laws call, each for the heap it names.
-/
import Derived.Test.YtnkpefonocggfaaRows
import Derived.Test.YtnkpefonocggfaaSLPhase
import Derived.Test.YtnkpefonocggfaaSLInt
import Derived.Test.YtnkpefonocggfaaTab
import Derived.Test.YtnkpefonocggfaaHeapL
set_option linter.unusedVariables false
set_option maxRecDepth 20000
namespace Go.Proofs.Ytnkpefonocggfaa


/-- An element as the document has it: its handle, value, key, and when it was pushed. -/
structure WE where
  h : Nat
  v : Int
  k : Nat
  s : Nat
abbrev hds (W : List WE) : List Nat := W.map (fun w => w.h)
structure Hp (W : List WE) (E : List El) (l : List Nat) (n : Nat) : Prop where
  st : St E E l
  ord : HOk (rkl E l) l.length
  perm : l.Perm (hds W)
  el : ∀ w ∈ W, ∃ x, E[w.h]? = some x ∧ x.key = w.k ∧ x.value = w.v ∧ x.seq = w.s
  off : ∀ (h : Nat) (x : El), E[h]? = some x → h ∉ l → x.pos = -1
  inc : W.Pairwise (fun a b => a.s < b.s)
  le : ∀ w ∈ W, w.s ≤ n
  nb : n < 9000000000000000000
  cap : l.length ≤ 1024
  ecap : E.length ≤ 1024
theorem hp_new : Hp [] [] [] 0 where
  st := ⟨rfl, fun h x hx => (by cases hx), fun i h hh => (by cases hh), fun h x hx => (by cases hx)⟩
  ord := fun j h1 h2 => absurd h2 (Nat.not_lt_zero j)
  perm := .refl _
  el := fun w hw => by cases hw
  off := fun h x hx => by cases hx
  inc := .nil
  le := fun w hw => by cases hw
  nb := by decide
  cap := by decide
  ecap := by decide
variable {W : List WE} {E : List El} {l : List Nat} {n : Nat}
theorem Hp.mem (hp : Hp W E l n) (h : Nat) : h ∈ l ↔ ∃ w ∈ W, w.h = h := by
  rw [hp.perm.mem_iff, List.mem_map]
theorem Hp.len (hp : Hp W E l n) : l.length = W.length := by rw [hp.perm.length_eq, List.length_map]
theorem Hp.nodup (hp : Hp W E l n) : (hds W).Nodup := hp.perm.nodup_iff.1 hp.st.nodup
theorem Hp.inj (hp : Hp W E l n) {a b : WE} (ha : a ∈ W) (hb : b ∈ W) (h : a.h = b.h) : a = b := by
  have hn := hp.nodup
  rw [List.Nodup, List.pairwise_map, List.pairwise_iff_getElem] at hn
  obtain ⟨i, hi, rfl⟩ := List.mem_iff_getElem.1 ha
  obtain ⟨j, hj, rfl⟩ := List.mem_iff_getElem.1 hb
  rcases Nat.lt_trichotomy i j with e | e | e
  · exact absurd h (hn i j hi hj e)
  · subst e; rfl
  · exact absurd h.symm (hn j i hj hi e)
/-- A number is a handle just if its element is somewhere. -/
theorem Hp.has (hp : Hp W E l n) {h : Nat} {x : El} (hx : E[h]? = some x) : 0 ≤ x.pos ↔ h ∈ l := by
  constructor
  · intro h0
    by_cases hm : h ∈ l
    · exact hm
    · have := hp.off h x hx hm; omega
  · intro hm
    obtain ⟨i, hi⟩ := List.getElem?_of_mem hm
    obtain ⟨y, hy, py⟩ := hp.st.pos i h hi
    rw [hx] at hy
    have := Option.some.inj hy
    subst this
    omega
theorem Hp.at (hp : Hp W E l n) {h : Nat} {x : El} (hx : E[h]? = some x) (hm : h ∈ l) : ∃ i : Nat, x.pos = (i : Int) ∧ l[i]? = some h ∧ i < l.length := by
  obtain ⟨i, hi⟩ := List.getElem?_of_mem hm
  obtain ⟨y, hy, py⟩ := hp.st.pos i h hi
  rw [hx] at hy
  have := Option.some.inj hy
  subst this
  exact ⟨i, py, hi, (List.getElem?_eq_some_iff.1 hi).1⟩
theorem Hp.in (hp : Hp W E l n) {h : Nat} (hm : h ∈ l) : ∃ w x, w ∈ W ∧ w.h = h ∧ E[h]? = some x ∧ x.key = w.k ∧ x.value = w.v ∧ x.seq = w.s := by
  obtain ⟨w, hw, rfl⟩ := (hp.mem h).1 hm
  obtain ⟨x, hx, h1, h2, h3⟩ := hp.el w hw
  exact ⟨w, x, hw, rfl, hx, h1, h2, h3⟩
/-- The element of a handle, as the document has it. -/
def wfind (W : List WE) (h : Nat) : Option WE := W.find? (fun w => decide (w.h = h))
theorem Hp.find (hp : Hp W E l n) {w : WE} (hw : w ∈ W) : wfind W w.h = some w := by
  unfold wfind
  cases hf : W.find? (fun u => decide (u.h = w.h)) with
  | none => 
    have := List.find?_eq_none.1 hf w hw
    simp at this
  | some u =>
    have h1 := List.mem_of_find?_eq_some hf
    have h2 := List.find?_some hf
    rw [hp.inj h1 hw (of_decide_eq_true h2)]
theorem Hp.nofind (hp : Hp W E l n) {h : Nat} (hh : h ∉ l) : wfind W h = none := by
  unfold wfind
  rw [List.find?_eq_none]
  intro w hw e
  exact hh ((hp.mem h).2 ⟨w, hw, of_decide_eq_true e⟩)
/-- The first element by its key and by when it was pushed. -/
theorem Hp.top (hp : Hp W E l n) {h : Nat} (h0 : l[0]? = some h) : ∃ w ∈ W, w.h = h ∧ ∀ u ∈ W, w.k < u.k ∨ (w.k = u.k ∧ w.s ≤ u.s) := by
  obtain ⟨w, x, hw, hwh, hx, hk, hv, hs⟩ := hp.in (List.mem_of_getElem? h0)
  refine ⟨w, hw, hwh, fun u hu => ?_⟩
  obtain ⟨y, hy, yk, yv, ys⟩ := hp.el u hu
  obtain ⟨j, hj⟩ := List.getElem?_of_mem ((hp.mem u.h).2 ⟨u, hu, rfl⟩)
  have := hp.ord.top j (List.getElem?_eq_some_iff.1 hj).1
  rw [rkl, rkl, gt0_of h0, gt0_of hj, rk_of hx, rk_of hy] at this
  have b1 := hp.st.sq _ _ hx
  have b2 := hp.st.sq _ _ hy
  omega
/-- The handle that the next element gets. -/
def fr (E : List El) : Nat := E.findIdx (fun x => decide (x.pos < 0))
theorem fr_le : fr E ≤ E.length := List.findIdx_le_length
theorem Hp.fr_out (hp : Hp W E l n) : fr E ∉ l := by
  intro hm
  obtain ⟨i, hi⟩ := List.getElem?_of_mem hm
  obtain ⟨x, hx, px⟩ := hp.st.pos i _ hi
  obtain ⟨hlt, rfl⟩ := List.getElem?_eq_some_iff.1 hx
  have := List.findIdx_getElem (w := hlt)
  simp only [decide_eq_true_eq] at this
  unfold fr at px
  omega
theorem Hp.below (hp : Hp W E l n) {h : Nat} (hh : h < fr E) : h ∈ l := by
  have h1 := List.not_of_lt_findIdx hh
  have hlt : h < E.length := Nat.lt_of_lt_of_le hh fr_le
  exact (hp.has (List.getElem?_eq_getElem hlt)).1 (by simp at h1; omega)
theorem Hp.below2 (hp : Hp W E l n) {h : Nat} (hh : E.length ≤ h) : h ∉ l := by
  intro hm
  obtain ⟨i, hi⟩ := List.getElem?_of_mem hm
  obtain ⟨x, hx, px⟩ := hp.st.pos i _ hi
  have := (List.getElem?_eq_some_iff.1 hx).1
  omega
/-- Changing what is not in the tree changes no order. -/
theorem rk_cong {E E' : List El} {h : Nat} (e : ∀ x, E[h]? = some x → ∃ y, E'[h]? = some y ∧ y.key = x.key ∧ y.seq = x.seq) (hx : ∃ x, E[h]? = some x) : rk E' h = rk E h := by
  obtain ⟨x, hx⟩ := hx
  obtain ⟨y, hy, h1, h2⟩ := e x hx
  rw [rk_of hy, rk_of hx, h1, h2]
/-- The memory before the new element goes to its place. -/
theorem Hp.push0 (hp : Hp W E l n) (k : Nat) (v : Int) {E1 : List El} (hE1 : E1 = E ∨ (fr E = E.length ∧ E1 = E ++ [⟨0, 0, 0, 0⟩])) (hlt : fr E < E1.length) (h1024 : l.length < 1024) (hb : n + 1 < 9000000000000000000) :
    St (E1.set (fr E) ⟨k, v, n + 1, 0⟩) (E1.set (fr E) ⟨k, v, n + 1, 0⟩) l ∧ HOk (rkl (E1.set (fr E) ⟨k, v, n + 1, 0⟩) l) l.length ∧ (E1.set (fr E) ⟨k, v, n + 1, 0⟩)[fr E]? = some ⟨k, v, n + 1, 0⟩ ∧
    (∀ h x, h ≠ fr E → (E1.set (fr E) ⟨k, v, n + 1, 0⟩)[h]? = some x → E[h]? = some x) ∧ (∀ h x, h ≠ fr E → E[h]? = some x → (E1.set (fr E) ⟨k, v, n + 1, 0⟩)[h]? = some x) := by
  have hget : ∀ (h : Nat), h ≠ fr E → (E1.set (fr E) ⟨k, v, n + 1, 0⟩)[h]? = E[h]? := fun h hne => by
    rw [List.getElem?_set, if_neg (Ne.symm hne)]
    rcases hE1 with rfl | ⟨hf, rfl⟩
    · rfl
    · by_cases hl : h < E.length
      · rw [List.getElem?_append_left hl]
      · rw [List.getElem?_eq_none_iff.2 (by rw [List.length_append, List.length_singleton]; omega), List.getElem?_eq_none_iff.2 (by omega)]
  have hself : (E1.set (fr E) ⟨k, v, n + 1, 0⟩)[fr E]? = some ⟨k, v, n + 1, 0⟩ := by rw [List.getElem?_set, if_pos rfl, if_pos hlt]
  have hne : ∀ i h, l[i]? = some h → h ≠ fr E := fun i h hi e => hp.fr_out (e ▸ List.mem_of_getElem? hi)
  refine ⟨⟨rfl, fun h x hx => ⟨x, hx, rfl, rfl, rfl, fun _ => rfl⟩, fun i h hi => ?_, fun h x hx => ?_⟩, ?_, hself, fun h x hn hx => by rw [hget h hn] at hx; exact hx, fun h x hn hx => by rw [hget h hn]; exact hx⟩
  · rw [hget h (hne i h hi)]; exact hp.st.pos i h hi
  · by_cases e : h = fr E
    · subst e
      rw [hself] at hx
      have := Option.some.inj hx
      subst this
      dsimp only; omega
    · rw [hget h e] at hx; exact hp.st.sq h x hx
  · refine hp.ord.cong fun j hj => ?_
    obtain ⟨h, x, hx, gx, hex, _⟩ := hp.st.get hj
    rw [rkl, rkl, gx, rk, rk, hget h (hne j h hx)]
theorem Hp.push (hp : Hp W E l n) (k : Nat) (v : Int) {E1 E2 : List El} {l2 : List Nat} (hE1 : E1 = E ∨ (fr E = E.length ∧ E1 = E ++ [⟨0, 0, 0, 0⟩])) (hlt : fr E < E1.length) (h1024 : l.length < 1024) (hb : n + 1 < 9000000000000000000)
    (s : St (E1.set (fr E) ⟨k, v, n + 1, 0⟩) E2 l2) (hl2 : l2.Perm (l ++ [fr E])) (ho : HOk (rkl E2 l2) l2.length) : Hp (W ++ [⟨fr E, v, k, n + 1⟩]) E2 l2 (n + 1) := by
  obtain ⟨h1, _, h3, h4, h5⟩ := hp.push0 k v hE1 hlt h1024 hb
  have hin : fr E ∈ l2 := hl2.mem_iff.2 (List.mem_append_right _ (List.mem_singleton.2 rfl))
  have hlen : E1.length ≤ 1024 := by
    rcases hE1 with rfl | ⟨hf, rfl⟩
    · exact hp.ecap
    · have : (List.range E.length).length ≤ l.length := by
        refine List.Nodup.length_le_of_subset List.nodup_range fun h hh => hp.below (by rw [hf]; exact List.mem_range.1 hh)
      rw [List.length_range] at this
      rw [List.length_append, List.length_singleton]; omega
  have hWn : ∀ w ∈ W, w.h ≠ fr E := fun w hw e => hp.fr_out ((hp.mem _).2 ⟨w, hw, e⟩)
  refine ⟨s.self (fun i h hh => hh), ho, ?_, fun w hw => ?_, fun h x hx hn => ?_, ?_, fun w hw => ?_, hb, by rw [hl2.length_eq, List.length_append, List.length_singleton]; omega, by rw [s.len, List.length_set]; exact hlen⟩
  · refine hl2.trans ?_
    rw [hds, List.map_append]
    exact hp.perm.append_right _
  · rcases List.mem_append.1 hw with hw | hw
    · obtain ⟨x, hx, a1, a2, a3⟩ := hp.el w hw
      obtain ⟨y, hy, b1, b2, b3, _⟩ := s.same _ _ (h5 _ _ (hWn w hw) hx)
      exact ⟨y, hy, b1.trans a1, b2.trans a2, b3.trans a3⟩
    · rw [List.mem_singleton] at hw
      subst hw
      obtain ⟨y, hy, b1, b2, b3, _⟩ := s.same _ _ h3
      exact ⟨y, hy, b1, b2, b3⟩
  · have hlt2 : h < (E1.set (fr E) ⟨k, v, n + 1, 0⟩).length := by rw [← s.len]; exact (List.getElem?_eq_some_iff.1 hx).1
    obtain ⟨y, hy, b1, b2, b3, b4⟩ := s.same h _ (List.getElem?_eq_getElem hlt2)
    rw [hx] at hy
    have := Option.some.inj hy
    subst this
    have hne : h ≠ fr E := fun e => hn (e ▸ hin)
    rw [b4 hn]
    exact hp.off h _ (h4 h _ hne (List.getElem?_eq_getElem hlt2)) (fun hm => hn (hl2.mem_iff.2 (List.mem_append_left _ hm)))
  · rw [List.pairwise_append]
    refine ⟨hp.inc, List.pairwise_singleton _ _, fun a ha b hb2 => ?_⟩
    rw [List.mem_singleton] at hb2
    subst hb2
    have := hp.le a ha
    dsimp only; omega
  · rcases List.mem_append.1 hw with hw | hw
    · have := hp.le w hw; omega
    · rw [List.mem_singleton] at hw
      subst hw
      exact Nat.le_refl _
def wchange (W : List WE) (h k : Nat) : List WE := W.map (fun w => if w.h = h then { w with k := k } else w)
theorem wchange_hds (W : List WE) (h k : Nat) : hds (wchange W h k) = hds W := by
  rw [wchange, hds, hds, List.map_map]
  refine List.map_congr_left fun w _ => ?_
  by_cases e : w.h = h <;> simp [e]
theorem Hp.change0 (hp : Hp W E l n) {h i : Nat} {x : El} (hx : E[h]? = some x) (hi : l[i]? = some h) (k : Nat) :
    St (E.set h { x with key := k }) (E.set h { x with key := k }) l ∧ HFix (rkl (E.set h { x with key := k }) l) l.length i := by
  have hlt := (List.getElem?_eq_some_iff.1 hx).1
  have hget : ∀ (j : Nat), j ≠ h → (E.set h { x with key := k })[j]? = E[j]? := fun j hj => by rw [List.getElem?_set, if_neg (Ne.symm hj)]
  have hself : (E.set h { x with key := k })[h]? = some { x with key := k } := by rw [List.getElem?_set, if_pos rfl, if_pos hlt]
  refine ⟨⟨rfl, fun h x hx => ⟨x, hx, rfl, rfl, rfl, fun _ => rfl⟩, fun j g hg => ?_, fun g y hy => ?_⟩, ?_⟩
  · obtain ⟨y, hy, py⟩ := hp.st.pos j g hg
    by_cases e : g = h
    · subst e
      rw [hx] at hy
      have := Option.some.inj hy
      subst this
      exact ⟨_, hself, py⟩
    · exact ⟨y, by rw [hget g e]; exact hy, py⟩
  · by_cases e : g = h
    · subst e
      rw [hself] at hy
      have := Option.some.inj hy
      subst this
      exact hp.st.sq g x hx
    · rw [hget g e] at hy; exact hp.st.sq g y hy
  · have hi2 := (List.getElem?_eq_some_iff.1 hi).1
    have := hp.ord
    refine (key_fix (F := fun j => if j < l.length then rkl E l j else 0) (F' := fun j => if j < l.length then rkl (E.set h { x with key := k }) l j else 0) (this.cong fun j hj => by rw [if_pos hj]) hi2 fun j hj => ?_).cong hi2 fun j hj => by rw [if_pos hj]
    by_cases hjl : j < l.length
    · rw [if_pos hjl, if_pos hjl]
      obtain ⟨g, y, hg, gg, hgy, py⟩ := hp.st.get hjl
      have hne : g ≠ h := fun e => by
        subst e
        obtain ⟨z, hz, pz⟩ := hp.st.pos i g hi
        rw [hgy] at hz
        have := Option.some.inj hz
        subst this
        omega
      rw [rkl, rkl, gg, rk, rk, hget g hne]
    · rw [if_neg hjl, if_neg hjl]
theorem Hp.change (hp : Hp W E l n) {h i : Nat} {x : El} (hx : E[h]? = some x) (hi : l[i]? = some h) (k : Nat) {E2 : List El} {l2 : List Nat} (s : St (E.set h { x with key := k }) E2 l2) (hl2 : l2.Perm l) (ho : HOk (rkl E2 l2) l2.length) :
    Hp (wchange W h k) E2 l2 n := by
  have hlt := (List.getElem?_eq_some_iff.1 hx).1
  have hget : ∀ (j : Nat), j ≠ h → (E.set h { x with key := k })[j]? = E[j]? := fun j hj => by rw [List.getElem?_set, if_neg (Ne.symm hj)]
  have hself : (E.set h { x with key := k })[h]? = some { x with key := k } := by rw [List.getElem?_set, if_pos rfl, if_pos hlt]
  refine ⟨s.self (fun i h hh => hh), ho, by rw [wchange_hds]; exact hl2.trans hp.perm, fun w hw => ?_, fun g y hy hn => ?_, ?_, fun w hw => ?_, hp.nb, by rw [hl2.length_eq]; exact hp.cap, by rw [s.len, List.length_set]; exact hp.ecap⟩
  · obtain ⟨u, hu, rfl⟩ := List.mem_map.1 hw
    obtain ⟨y, hy, a1, a2, a3⟩ := hp.el u hu
    by_cases e : u.h = h
    · rw [if_pos e]
      rw [e, hx] at hy
      have := Option.some.inj hy
      subst this
      obtain ⟨z, hz, b1, b2, b3, _⟩ := s.same _ _ hself
      exact ⟨z, by dsimp only; rw [e]; exact hz, b1, b2.trans a2, b3.trans a3⟩
    · rw [if_neg e]
      obtain ⟨z, hz, b1, b2, b3, _⟩ := s.same u.h y (by rw [hget _ e]; exact hy)
      exact ⟨z, hz, b1.trans a1, b2.trans a2, b3.trans a3⟩
  · have hne : g ≠ h := fun e => hn (hl2.mem_iff.2 (e ▸ List.mem_of_getElem? hi))
    have hlt2 : g < (E.set h { x with key := k }).length := by rw [← s.len]; exact (List.getElem?_eq_some_iff.1 hy).1
    obtain ⟨z, hz, b1, b2, b3, b4⟩ := s.same g _ (List.getElem?_eq_getElem hlt2)
    rw [hy] at hz
    have := Option.some.inj hz
    subst this
    rw [b4 hn]
    exact hp.off g _ (by rw [← hget g hne]; exact List.getElem?_eq_getElem hlt2) (fun hm => hn (hl2.mem_iff.2 hm))
  · rw [wchange, List.pairwise_map]
    refine hp.inc.imp fun {a b} hab => ?_
    by_cases e1 : a.h = h <;> by_cases e2 : b.h = h <;> simp [e1, e2] <;> exact hab
  · obtain ⟨u, hu, rfl⟩ := List.mem_map.1 hw
    have := hp.le u hu
    by_cases e : u.h = h <;> simp [e] <;> exact this
def wremove (W : List WE) (h : Nat) : List WE := W.filter (fun w => decide (w.h ≠ h))
theorem wremove_hds (W : List WE) (h : Nat) : hds (wremove W h) = (hds W).filter (fun g => decide (g ≠ h)) := by
  rw [wremove, hds, hds, List.filter_map]; rfl
theorem erase_filter {l : List Nat} (hn : l.Nodup) (h : Nat) : l.erase h = l.filter (fun g => decide (g ≠ h)) := by
  rw [hn.erase_eq_filter]
  refine List.filter_congr fun g _ => ?_
  by_cases e : g = h <;> simp [e]
/-- After the last element went to the place of the one that is removed. -/
theorem Hp.cut0 {E0 E2 : List El} {l3 : List Nat} {h : Nat} (s : St E0 E2 (l3 ++ [h])) : St E2 E2 l3 :=
  s.self fun i k hk => by rw [List.getElem?_append_left (List.getElem?_eq_some_iff.1 hk).1]; exact hk
theorem Hp.remove (hp : Hp W E l n) {h : Nat} (hm : h ∈ l) {E2 E3 : List El} {l3 l4 : List Nat} (s2 : St E E2 (l3 ++ [h])) (hl3 : (l3 ++ [h]).Perm l) (s3 : St E2 E3 l4) (hl4 : l4.Perm l3) (ho : HOk (rkl E3 l4) l4.length) :
    Hp (wremove W h) (setp E3 h (-1)) l4 n := by
  have hn : (l3 ++ [h]).Nodup := s2.nodup
  have hnot : h ∉ l3 := fun hm3 => by
    rw [List.nodup_append] at hn
    exact hn.2.2 h hm3 h (List.mem_singleton.2 rfl) rfl
  have hnot4 : h ∉ l4 := fun h9 => hnot (hl4.mem_iff.1 h9)
  have hl : l4.Perm (l.filter (fun g => decide (g ≠ h))) := by
    refine hl4.trans ?_
    have e := hl3.filter (fun g => decide (g ≠ h))
    rw [List.filter_append] at e
    have e1 : l3.filter (fun g => decide (g ≠ h)) = l3 := List.filter_eq_self.2 fun g hg => decide_eq_true (fun e9 => hnot (e9 ▸ hg))
    have e2 : [h].filter (fun g => decide (g ≠ h)) = [] := by simp
    rw [e1, e2, List.append_nil] at e
    exact e
  have hget : ∀ (g : Nat) (y : El), g ≠ h → (setp E3 h (-1))[g]? = some y → E3[g]? = some y := fun g y hg hy => by
    obtain ⟨z, hz, rfl⟩ := setp_back hy
    rw [if_neg (Ne.symm hg)]; exact hz
  have hget2 : ∀ (g : Nat) (y : El), g ≠ h → E3[g]? = some y → (setp E3 h (-1))[g]? = some y := fun g y hg hy => by
    rw [setp_get hy, if_neg (Ne.symm hg)]
  refine ⟨⟨rfl, fun h x hx => ⟨x, hx, rfl, rfl, rfl, fun _ => rfl⟩, fun i g hg => ?_, fun g y hy => ?_⟩, ?_, ?_, fun w hw => ?_, fun g y hy hng => ?_, ?_, fun w hw => ?_, hp.nb, ?_, ?_⟩
  · obtain ⟨y, hy, py⟩ := s3.pos i g hg
    exact ⟨y, hget2 g y (fun e => hnot4 (e ▸ List.mem_of_getElem? hg)) hy, py⟩
  · obtain ⟨z, hz, rfl⟩ := setp_back hy
    have := s3.sq g z hz
    by_cases e : h = g <;> simp [e] <;> exact this
  · refine ho.cong fun j hj => ?_
    obtain ⟨g, y, hg, gg, hgy, _⟩ := s3.get hj
    rw [rkl, rkl, gg, rk_of hgy, rk_of (hget2 g y (fun e => hnot4 (e ▸ List.mem_of_getElem? hg)) hgy)]
  · rw [wremove_hds]; exact hl.trans (hp.perm.filter _)
  · rw [wremove, List.mem_filter] at hw
    obtain ⟨hw, hne⟩ := hw
    have hne : w.h ≠ h := of_decide_eq_true hne
    obtain ⟨x, hx, a1, a2, a3⟩ := hp.el w hw
    obtain ⟨y, hy, b1, b2, b3, _⟩ := s2.same _ _ hx
    obtain ⟨z, hz, c1, c2, c3, _⟩ := s3.same _ _ hy
    exact ⟨z, hget2 _ _ hne hz, c1.trans (b1.trans a1), c2.trans (b2.trans a2), c3.trans (b3.trans a3)⟩
  · by_cases e : g = h
    · subst e
      obtain ⟨z, hz, rfl⟩ := setp_back hy
      rw [if_pos rfl]
    · have hy3 := hget g y e hy
      have hlt : g < E.length := by
        have := (List.getElem?_eq_some_iff.1 hy3).1
        rw [s3.len, s2.len] at this; exact this
      obtain ⟨z, hz, b1, b2, b3, b4⟩ := s2.same g _ (List.getElem?_eq_getElem hlt)
      obtain ⟨u, hu, c1, c2, c3, c4⟩ := s3.same g z hz
      rw [hy3] at hu
      have := Option.some.inj hu
      subst this
      have h3 : g ∉ l3 ++ [h] := fun h9 => by
        rcases List.mem_append.1 h9 with h9 | h9
        · exact hng (hl4.mem_iff.2 h9)
        · exact e (List.mem_singleton.1 h9)
      rw [c4 hng, b4 h3]
      exact hp.off g _ (List.getElem?_eq_getElem hlt) (fun h9 => h3 (hl3.mem_iff.2 h9))
  · exact hp.inc.filter _
  · rw [wremove, List.mem_filter] at hw
    exact hp.le w hw.1
  · have := hl3.length_eq
    rw [List.length_append, List.length_singleton] at this
    have := hp.cap
    rw [hl4.length_eq]; omega
  · rw [setp_len, s3.len, s2.len]; exact hp.ecap

end Go.Proofs.Ytnkpefonocggfaa
