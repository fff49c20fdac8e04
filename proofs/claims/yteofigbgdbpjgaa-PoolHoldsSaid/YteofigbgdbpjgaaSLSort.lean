/-
  slices.SortFunc at elements of one cell: the library's contract as one of ours.
-/
import Derived.Test.YteofigbgdbpjgaaZB
import Derived.Shelf.SlSortCmp.Whole1
import Derived.Shelf.SlSortCmp.NoneTotal
namespace Go.Proofs.Yteofigbgdbpjgaa
open Go.Shelf Go.RowKit Go.Lib Go.Sort
/-- A world with the same blocks and new ones behind them. -/
theorem hw_grow {Hc : Heap} {W W' : World} (h : HOK Hc W) (c : HW Hc W Hc W') : ∃ q os', W' = grow (W.drewN q) os' := by
  have hb := HW.belOf h c
  refine ⟨W'.drawn - W.drawn, W'.heap.extract W.heap.size W'.heap.size, ?_⟩
  have hheap : W'.heap = W.heap ++ W'.heap.extract W.heap.size W'.heap.size := by
    apply Array.ext_getElem?
    intro k
    rw [Array.getElem?_append]
    by_cases hk : k < W.heap.size
    · rw [if_pos hk]; exact hb.block k hk
    · rw [if_neg hk, Array.getElem?_extract]
      by_cases h2 : k < W'.heap.size
      · rw [if_pos (by omega)]; congr 1; omega
      · rw [if_neg (by omega), Array.getElem?_eq_none (by omega)]
  have hdr := c.dr
  obtain ⟨hp, tp, dr, os, out⟩ := W'
  obtain ⟨hp0, tp0, dr0, os0, out0⟩ := W
  have e1 := c.os
  have e2 := c.tape
  have e3 := c.output
  dsimp only at e1 e2 e3 hdr hheap
  subst e1 e2 e3
  simp only [grow, World.drewN, World.mk.injEq, true_and, and_true]
  exact ⟨hheap, by omega⟩
section
variable {α : Type} [Inhabited α] {enc : α → Value}
theorem holds_of {w : World} {b : Nat} {e : TypeId} {d : List α} {tl : List Value} (hb : w.heap[b]? = some (cl (d.map enc ++ tl) e)) : Holds enc w b 0 d.toArray := fun j hj => by
  have hj' : j < d.length := by simpa using hj
  have hg : (d.map enc ++ tl)[j]? = some (enc d[j]) := by rw [List.getElem?_append_left (by simpa using hj'), List.getElem?_map, List.getElem?_eq_getElem hj']; rfl
  refine ⟨?_, ?_⟩
  · simp only [World.cell?, hb, cl, Nat.zero_add, List.getElem?_toArray, hg]
    simp [hj']
  · simp [World.frozen?, hb, cl]
theorem sw_hw {Hc : Heap} {w : World} {b : Nat} {e : TypeId} {d d' : List α} {tl : List Value} (hw : HOK (⟨some b, cl (d.map enc ++ tl) e⟩ :: Hc) w) (hl : d'.length = d.length) (m : Nat) (os : Array Obj) :
    HW (⟨some b, cl (d.map enc ++ tl) e⟩ :: Hc) w (⟨some b, cl (d'.map enc ++ tl) e⟩ :: Hc) (sortWorld enc w b 0 m d'.toArray os) := by
  have hb : w.heap[b]? = some (cl (d.map enc ++ tl) e) := by
    have := hw.ok _ (List.mem_cons_self ..)
    simpa [Ent.ok] using this
  have hlt := (Array.getElem?_eq_some_iff.1 hb).1
  have hput : putCells enc 0 d'.toArray (d.map enc ++ tl).toArray = (d'.map enc ++ tl).toArray := by
    apply Array.ext_getElem?
    intro k
    simp only [putCells, Array.getElem?_mapIdx, List.getElem?_toArray]
    by_cases hk : k < d'.length
    · rw [List.getElem?_append_left (by simpa using (by omega : k < d.length)), List.getElem?_append_left (by simpa using hk), List.getElem?_map, List.getElem?_map, List.getElem?_eq_getElem (by omega : k < d.length), List.getElem?_eq_getElem hk]
      simp [hk]
    · rw [List.getElem?_append_right (by simp; omega), List.getElem?_append_right (by simp; omega)]
      simp only [List.length_map, hl]
      cases tl[k - d.length]? with
      | none => rfl
      | some v => simp [hk]
  have hsame : (sortWorld enc w b 0 m d'.toArray os).heap[b]? = some (cl (d'.map enc ++ tl) e) := by
    simp only [sortWorld, grow, putRow, mapBlock, Sort.ahead, Array.getElem?_append, Array.size_modify, hlt, if_true, Array.getElem?_modify, hb, Option.map_some, cl, onCells]
    rw [hput]
  have hother : ∀ k, k < w.heap.size → k ≠ b → (sortWorld enc w b 0 m d'.toArray os).heap[k]? = w.heap[k]? := fun k hk hne => by
    simp only [sortWorld, grow, putRow, mapBlock, Sort.ahead, Array.getElem?_append, Array.size_modify, hk, if_true, Array.getElem?_modify, if_neg (Ne.symm hne)]
  have hnd := hw.nodup
  simp only [keys, List.filterMap_cons, List.nodup_cons] at hnd
  refine ⟨⟨by simp only [keys, List.filterMap_cons, List.nodup_cons]; exact hnd, fun x hx => ?_⟩, rfl, rfl, rfl, ?_, fun k hk hn => ?_, fun k hk => .inl (by simpa [keys] using hk), ?_⟩
  · rcases List.mem_cons.1 hx with rfl | hx2
    · simpa [Ent.ok] using hsame
    · have h1 := hw.ok x (List.mem_cons_of_mem _ hx2)
      cases hxb : x.b with
      | none => simp only [Ent.ok, hxb] at h1 ⊢; exact h1
      | some c =>
        simp only [Ent.ok, hxb] at h1 ⊢
        have hne : c ≠ b := fun e => hnd.1 (by subst e; exact List.mem_filterMap.2 ⟨x, hx2, hxb⟩)
        rw [hother c (Array.getElem?_eq_some_iff.1 h1).1 hne]; exact h1
  · simp [sortWorld, grow, putRow, mapBlock, Sort.ahead]
  · exact hother k hk (fun e => hn (by subst e; simp [keys]))
  · simp [sortWorld, grow, putRow, mapBlock, Sort.ahead]
theorem sort_ok {P : Program} {ρ : Ren} (L : SlLaysF.n6 P ρ) (f : Nat) (hf : ρ.f 6 = f) (h1 : OneCell enc) (cf : α → α → Int) (hO : SWO (ltOf cf)) (g : Nat) (cb : List Value) (Hc : Heap)
    (hcmp : ∀ x y, Spec P g ([enc x, enc y] ++ cb) Hc (fun r H' => r = .int .i64 (cf x y) ∧ H' = Hc)) (hen : Enters P f) (b n c : Nat) (e : TypeId) (d : List α) (tl : List Value) (hn : d.length = n) (hsz : n < 4611686018427387904) :
    Spec P f [slV (some b) n c, .func (.func g) #[] cb.toArray] (⟨some b, cl (d.map enc ++ tl) e⟩ :: Hc)
      (fun r H' => ∃ d' : List α, r = .tuple #[] ∧ d'.Perm d ∧ d'.Pairwise (fun x y => ltOf cf y x = false) ∧ H' = ⟨some b, cl (d'.map enc ++ tl) e⟩ :: Hc) := by
  subst hf hn
  refine ⟨hen, fun w hw => callsIn_wide.2 ?_⟩
  have hb : w.heap[b]? = some (cl (d.map enc ++ tl) e) := by
    have := hw.ok _ (List.mem_cons_self ..)
    simpa [Ent.ok] using this
  have hlt := (Array.getElem?_eq_some_iff.1 hb).1
  have hc : CmpLays1 P g cb.toArray enc cf b 0 d.toArray.size w := fun m os dk hdk x y => by
    have hw2 := (sw_hw (d' := dk.toList) hw (by simpa using hdk) m os)
    simp only [Array.toArray_toList] at hw2
    have hok : HOK Hc (sortWorld enc w b 0 m dk os) := (hw2.perm (by simpa using (List.perm_append_comm (l₁ := [_]) (l₂ := Hc)))).left.hok
    have := callsIn_wide.1 ((hcmp x y).calls _ hok)
    rw [show (#[enc x, enc y] ++ cb.toArray : Array Value) = ([enc x, enc y] ++ cb).toArray from by simp]
    refine this.mono fun e w' ⟨v, H', e1, ⟨e2, e3⟩, e4⟩ => ⟨by rw [e1, e2], ?_⟩
    subst e3
    exact hw_grow hok e4
  have := Any.slices_SortFunc L enc h1 cf hO g cb.toArray b 0 c d.toArray w (hcmp default default).enters hc (holds_of hb) hlt (by simpa using hsz)
  refine this.mono fun e w' ⟨he, d', m, os, hp, hs, hwe⟩ => ?_
  obtain ⟨hs1, _, hp2⟩ := hp
  have hsz2 : d'.size = d.length := by simpa using hs1
  refine ⟨_, _, he, ⟨d'.toList, rfl, ?_, ?_, rfl⟩, ?_⟩
  · have e1 : d'.extract 0 d.toArray.size = d' := by simp [← hsz2]
    have e2 : d.toArray.extract 0 d.toArray.size = d.toArray := by simp
    rw [e1, e2] at hp2
    simpa using hp2
  · rw [List.pairwise_iff_getElem]
    intro i j hi hj hij
    have := hs i j (Nat.zero_le _) hij (by simpa [hsz2] using hj)
    have hi' : i < d'.size := by simpa using hi
    have hj' : j < d'.size := by simpa using hj
    simpa [hi', hj'] using this
  · rw [hwe]
    have := sw_hw (d' := d'.toList) hw (by simpa using hsz2) m os
    simpa only [Array.toArray_toList] using this
end
end Go.Proofs.Yteofigbgdbpjgaa
