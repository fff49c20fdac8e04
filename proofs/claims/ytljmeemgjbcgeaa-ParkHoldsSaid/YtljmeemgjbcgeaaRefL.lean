/-
  Chapter 09 (park), part RefL: contracts of functions that the laws call, each for the heap it names.
-/
import Derived.Test.YtljmeemgjbcgeaaParkC
set_option linter.unusedVariables false
set_option maxRecDepth 20000
namespace Go.Proofs.Ytljmeemgjbcgeaa


abbrev encWt (z : Wt) : List Value := [.int .i64 (z.i : Int), .int .i64 z.at_.1, .int .i64 z.at_.2]
theorem encWt3 (z : Wt) : (encWt z).length = 3 := rfl
theorem encWt_one (W : List Wt) : (W.flatMap encWt).all Value.oneCell' = true := fm_all (fun _ => rfl) W
structure RfM where
  os : Option Nat
  sc : Nat
  ts : List Value
  oq : Option Nat
  qc : Nat
  tq : List Value
  ow : Option Nat
  wc : Nat
  tw : List Value
abbrev rfV (s : PS) (r : RfM) : Value := .agg #[slV r.os s.sm.length r.sc, slV r.oq s.qm.length r.qc, slV r.ow s.W.length r.wc]
abbrev rfH (s : PS) (r : RfM) : Heap := [⟨r.os, cl (ivs s.sm ++ r.ts) 3⟩, ⟨r.oq, cl (ivs s.qm ++ r.tq) 3⟩, ⟨r.ow, cl (s.W.flatMap encWt ++ r.tw) 100⟩]
structure RfOk (s : PS) (r : RfM) : Prop where
  os : Own r.os s.sm.length r.sc 1 (ivs s.sm) r.ts
  oq : Own r.oq s.qm.length r.qc 1 (ivs s.qm) r.tq
  ow : Own r.ow s.W.length r.wc 3 (s.W.flatMap encWt) r.tw
theorem stepR_same {sm qm : List Int} {fr to i : Int} (h : (stepR sm qm fr to i).1 ≠ 0) : (stepR sm qm fr to i).2 = (sm, qm) := by
  unfold stepR at *
  split at h
  · rename_i e; rw [if_pos e]
  · rename_i e
    rw [if_neg e]
    split at h
    · exact absurd rfl h
    · rename_i e2; rw [if_neg e2]
theorem step_same {s : PS} {fr to i : Int} (h : (stepR s.sm s.qm fr to i).1 ≠ 0) : s.step fr to i = s := by
  unfold PS.step
  rw [stepR_same h]
theorem wOut_len {W : List Wt} {z : Wt} (hz : z ∈ W) : (wOut W z.i).length < W.length := by
  refine Nat.lt_of_le_of_ne (List.length_filter_le _ _) fun e => ?_
  have := List.length_filter_eq_length_iff.1 e z hz
  exact of_decide_eq_true this rfl
theorem out_room {s : PS} (h : PsOk s) {z : Wt} (hz : z ∈ s.W) : (s.out z.i).qm.length + (s.out z.i).W.length ≤ s.qm.length + s.W.length := by
  have h1 := wOut_len hz
  have hi := (h.prk z.i).2 ⟨z, hz, rfl⟩
  have h2 : (s.out z.i).qm = s.qm.filter (fun v => decide (v ≠ (z.i : Int))) ++ [(z.i : Int)] := by
    unfold PS.out; rw [stepR_ok hi]; rfl
  have h3 := List.length_filter_le (fun v => decide (v ≠ (z.i : Int))) s.qm
  have h4 : (s.out z.i).W = wOut s.W z.i := rfl
  rw [h2, h4, List.length_append, List.length_singleton]
  omega
/-- Ready and parked tasks are different ones. -/
theorem PkIs.room {N : Nat} {s : PS} {l : PkM} (h : PkIs N s l) : s.qm.length + s.W.length ≤ 64 := by
  have hq := tw_nodup h.tk
  have hv : ∀ v ∈ s.qm, ∃ i : Nat, v = (i : Int) ∧ s.sm[i]? = some 1 := fun v hv => by
    rw [← h.tk.qm] at hv
    obtain ⟨⟨t, u⟩, hx, rfl⟩ := List.mem_map.1 hv
    obtain ⟨i, hi, hS⟩ := h.tk.tk.back t u hx
    exact ⟨i, hi, by rw [← h.tk.sm, List.getElem?_map, hS]; rfl⟩
  have hnd : (s.qm ++ s.W.map (fun z => (z.i : Int))).Nodup := by
    rw [List.nodup_append]
    refine ⟨hq, ?_, fun a ha b hb e => ?_⟩
    · have := h.ps.nd
      rw [List.Nodup, List.pairwise_map] at this ⊢
      exact this.imp fun hne e => hne (by omega)
    · subst e
      obtain ⟨i, rfl, hi⟩ := hv a ha
      obtain ⟨z, hz, e⟩ := List.mem_map.1 hb
      have := (h.ps.prk z.i).2 ⟨z, hz, rfl⟩
      rw [show z.i = i from by omega, hi] at this
      cases this
  have := List.Nodup.length_le_of_subset hnd (l₂ := (List.range s.sm.length).map (fun i : Nat => (i : Int))) fun x hx => by
    rcases List.mem_append.1 hx with hx | hx
    · obtain ⟨i, rfl, hi⟩ := hv x hx
      exact List.mem_map.2 ⟨i, List.mem_range.2 (List.getElem?_eq_some_iff.1 hi).1, rfl⟩
    · obtain ⟨z, hz, rfl⟩ := List.mem_map.1 hx
      exact List.mem_map.2 ⟨z.i, List.mem_range.2 (List.getElem?_eq_some_iff.1 ((h.ps.prk z.i).2 ⟨z, hz, rfl⟩)).1, rfl⟩
  rw [List.length_append, List.length_map, List.length_map, List.length_range] at this
  have := h.ps.len
  omega
theorem whr_miss {s : PS} {i : Int} (h0 : (stR s.sm i).2 = 0) (hno : ∀ z ∈ s.W, (z.i : Int) ≠ i) : s.whr i = ((0, 0), 8) := by
  unfold PS.whr
  rw [if_neg (fun e => e h0)]
  have : s.W.find? (fun w => decide ((w.i : Int) = i)) = none := by
    rw [List.find?_eq_none]
    intro w hw
    simp only [decide_eq_true_eq]
    exact hno w hw
  rw [this]
theorem whr_zero (s : PS) {i : Int} (h : (s.whr i).2 ≠ 0) : (s.whr i).1 = (0, 0) := by
  unfold PS.whr at *
  split
  · rfl
  · rename_i e
    rw [if_neg e] at h
    split
    · rename_i w hf; rw [hf] at h; exact absurd rfl h
    · rfl
theorem wAt_next (W : List Wt) (a : Sp) (z : Wt) : wAt (W ++ [z]) a = wAt W a ++ (if z.at_ = a then [(z.i : Int)] else []) := wAt_snoc W z.i z.at_ a
theorem wOut_next (W : List Wt) (i : Int) (z : Wt) : wOut (W ++ [z]) i = wOut W i ++ (if (z.i : Int) ≠ i then [z] else []) := by
  unfold wOut
  rw [List.filter_append]
  by_cases h : (z.i : Int) = i <;> simp [h]
theorem tkW {α : Type} {l : List α} {k : Nat} {x : α} (h : l[k]? = some x) : l.take (k + 1) = l.take k ++ [x] := by
  obtain ⟨h2, rfl⟩ := List.getElem?_eq_some_iff.1 h
  rw [List.take_append_getElem]
structure RnW where
  j : Nat
  l : List Wt
  o : Option Nat
  c : Nat
  t : List Value
structure RiW where
  j : Nat
  l : List Int
  o : Option Nat
  c : Nat
  t : List Value
structure RaW where
  k : Nat
  r : RfM

end Go.Proofs.Ytljmeemgjbcgeaa
