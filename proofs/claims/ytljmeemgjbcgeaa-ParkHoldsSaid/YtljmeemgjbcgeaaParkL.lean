/-
  Chapter 09 (park), part ParkL: contracts of functions that the laws call, each for the heap it names.
-/
import Derived.Test.YtljmeemgjbcgeaaTaskM
import Derived.Test.YtljmeemgjbcgeaaZSLArg
set_option linter.unusedVariables false
set_option maxRecDepth 20000
namespace Go.Proofs.Ytljmeemgjbcgeaa


abbrev Sp := Int × Int
structure Wt where
  i : Nat
  at_ : Sp
/-- Who waits at a spot, in order. -/
def wAt (W : List Wt) (s : Sp) : List Int := (W.filter (fun w => decide (w.at_ = s))).map (fun w => (w.i : Int))
def wOut (W : List Wt) (i : Int) : List Wt := W.filter (fun w => decide ((w.i : Int) ≠ i))
/-- The states, the run set, and who is parked, in order. -/
structure PS where
  sm : List Int
  qm : List Int
  W : List Wt
def vldS (s : Sp) : Prop := 0 ≤ s.1 ∧ s.1 < 128 ∧ (s.2 = 0 ∨ s.2 = 1)
instance (s : Sp) : Decidable (vldS s) := inferInstanceAs (Decidable (_ ∧ _ ∧ (_ ∨ _)))
def PS.step (s : PS) (fr to i : Int) : PS := ⟨(stepR s.sm s.qm fr to i).2.1, (stepR s.sm s.qm fr to i).2.2, s.W⟩
def PS.out (s : PS) (i : Int) : PS := ⟨(stepR s.sm s.qm 2 1 i).2.1, (stepR s.sm s.qm 2 1 i).2.2, wOut s.W i⟩
def PS.add (s : PS) (i : Nat) (at_ : Sp) : PS := ⟨(stepR s.sm s.qm 1 2 i).2.1, (stepR s.sm s.qm 1 2 i).2.2, s.W ++ [⟨i, at_⟩]⟩
def PS.parkE (s : PS) (i : Int) (at_ : Sp) : Int := if (stR s.sm i).2 ≠ 0 then (stR s.sm i).2 else if vldS at_ then (if (stR s.sm i).1 = 1 then 0 else 8) else 2
def PS.park (s : PS) (i : Int) (at_ : Sp) : PS := if s.parkE i at_ = 0 then s.add i.toNat at_ else s
def PS.whr (s : PS) (i : Int) : Sp × Int := if (stR s.sm i).2 ≠ 0 then ((0, 0), (stR s.sm i).2) else match s.W.find? (fun w => decide ((w.i : Int) = i)) with
  | some w => (w.at_, 0)
  | none => ((0, 0), 8)
def PS.leave (s : PS) (i : Int) : PS := if (s.whr i).2 = 0 then s.out i else s
def PS.waiting (s : PS) (at_ : Sp) : List Int := if vldS at_ then wAt s.W at_ else []
def spE (at_ : Sp) : Int := if vldS at_ then 0 else 2
def PS.wakeAll (s : PS) (at_ : Sp) : PS := (s.waiting at_).foldl PS.out s
def PS.wakeR (s : PS) (at_ : Sp) : Int × Int := if vldS at_ then (match wAt s.W at_ with
  | [] => (0, 9)
  | v :: _ => (v, 0)) else (0, 2)
def PS.wake (s : PS) (at_ : Sp) : PS := if (s.wakeR at_).2 = 0 then s.out (s.wakeR at_).1 else s
/-- Who is parked is known just by the states. -/
structure PsOk (s : PS) : Prop where
  prk : ∀ i : Nat, s.sm[i]? = some 2 ↔ ∃ w ∈ s.W, w.i = i
  nd : (s.W.map (·.i)).Nodup
  len : s.sm.length ≤ 64
  vld : ∀ w ∈ s.W, vldS w.at_
theorem PsOk.new {m : Nat} (h : m ≤ 64) : PsOk ⟨List.replicate m 0, [], []⟩ := by
  refine ⟨fun i => ⟨fun h2 => ?_, fun ⟨w, hw, _⟩ => by cases hw⟩, .nil, by rw [List.length_replicate]; exact h, fun w hw => by cases hw⟩
  have := List.eq_of_mem_replicate (List.mem_of_getElem? h2)
  cases this
theorem stR_some {sm : List Int} {i : Int} (h : (stR sm i).2 = 0) : ∃ (j : Nat) (x : Int), i = (j : Int) ∧ sm[j]? = some x ∧ (stR sm i).1 = x := by
  by_cases hr : i < 0 ∨ (sm.length : Int) ≤ i
  · rw [stR_out hr] at h; cases h
  · obtain ⟨j, rfl⟩ := Int.eq_ofNat_of_zero_le (show 0 ≤ i by omega)
    obtain ⟨x, hx⟩ := exE (T := sm) (i := j) (by omega)
    exact ⟨j, x, rfl, hx, by rw [stR_in hx]⟩
theorem stR_two (sm : List Int) (i : Int) : (stR sm i).2 = 0 ∨ (stR sm i).2 = 2 := by
  unfold stR; split
  · exact .inr rfl
  · exact .inl rfl
theorem wOut_mem {W : List Wt} {i : Int} {w : Wt} : w ∈ wOut W i ↔ w ∈ W ∧ (w.i : Int) ≠ i := by
  unfold wOut; rw [List.mem_filter, decide_eq_true_eq]
theorem wAt_out (W : List Wt) (i : Int) (s : Sp) : wAt (wOut W i) s = (wAt W s).filter (fun v => decide (v ≠ i)) := by
  unfold wAt wOut
  rw [List.filter_map, List.filter_filter, List.filter_filter]
  congr 1
  refine List.filter_congr fun w _ => ?_
  rw [Bool.and_comm]; rfl
theorem wAt_snoc (W : List Wt) (i : Nat) (a s : Sp) : wAt (W ++ [⟨i, a⟩]) s = wAt W s ++ (if a = s then [(i : Int)] else []) := by
  unfold wAt
  rw [List.filter_append, List.map_append]
  by_cases h : a = s <;> simp [h]
theorem wAt_mem {W : List Wt} {s : Sp} {v : Int} : v ∈ wAt W s ↔ ∃ w ∈ W, w.at_ = s ∧ (w.i : Int) = v := by
  unfold wAt
  rw [List.mem_map]
  constructor
  · rintro ⟨w, hw, e⟩
    obtain ⟨h1, h2⟩ := List.mem_filter.1 hw
    exact ⟨w, h1, of_decide_eq_true h2, e⟩
  · rintro ⟨w, hw, h, e⟩
    exact ⟨w, List.mem_filter.2 ⟨hw, decide_eq_true h⟩, e⟩
theorem wAt_nodup {W : List Wt} (h : (W.map (·.i)).Nodup) (s : Sp) : (wAt W s).Nodup := by
  unfold wAt
  rw [List.Nodup, List.pairwise_map]
  rw [List.Nodup, List.pairwise_map] at h
  exact (h.filter _).imp fun hne e => hne (by omega)
theorem wt_one {W : List Wt} (h : (W.map (·.i)).Nodup) {a b : Wt} (ha : a ∈ W) (hb : b ∈ W) (e : a.i = b.i) : a = b := by
  obtain ⟨i, hi, rfl⟩ := List.mem_iff_getElem.1 ha
  obtain ⟨j, hj, rfl⟩ := List.mem_iff_getElem.1 hb
  rw [List.Nodup, List.pairwise_map, List.pairwise_iff_getElem] at h
  rcases Nat.lt_trichotomy i j with q | q | q
  · exact absurd e (h i j hi hj q)
  · subst q; rfl
  · exact absurd e.symm (h j i hj hi q)
section
variable {s : PS}
theorem PsOk.find (h : PsOk s) {w : Wt} (hw : w ∈ s.W) : s.W.find? (fun u => decide ((u.i : Int) = (w.i : Int))) = some w := by
  cases hf : s.W.find? (fun u => decide ((u.i : Int) = (w.i : Int))) with
  | none =>
    have := List.find?_eq_none.1 hf w hw
    simp at this
  | some u =>
    have h1 := List.find?_some hf
    have h2 := List.mem_of_find?_eq_some hf
    rw [wt_one h.nd h2 hw (by simp at h1; omega)]
theorem PsOk.whr_out (h : PsOk s) {i : Int} (hr : i < 0 ∨ (s.sm.length : Int) ≤ i) : s.whr i = ((0, 0), 2) := by
  unfold PS.whr; rw [stR_out hr, if_pos (by decide)]
theorem PsOk.whr_no (h : PsOk s) {j : Nat} {x : Int} (hj : s.sm[j]? = some x) (hx : x ≠ 2) : s.whr j = ((0, 0), 8) := by
  unfold PS.whr
  rw [stR_in hj, if_neg (by simp)]
  have : s.W.find? (fun w => decide ((w.i : Int) = (j : Int))) = none := by
    rw [List.find?_eq_none]
    intro w hw
    simp only [decide_eq_true_eq]
    intro e
    have := (h.prk j).2 ⟨w, hw, by omega⟩
    rw [hj] at this
    exact hx (Option.some.inj this)
  rw [this]
theorem PsOk.whr_yes (h : PsOk s) {w : Wt} (hw : w ∈ s.W) : s.whr w.i = (w.at_, 0) := by
  have hj := (h.prk w.i).2 ⟨w, hw, rfl⟩
  unfold PS.whr
  rw [stR_in hj, if_neg (by simp), h.find hw]
theorem PsOk.step_ (h : PsOk s) (fr to i : Int) (hf : fr ≠ 2) (ht : to ≠ 2) : PsOk (s.step fr to i) := by
  unfold PS.step
  by_cases hr : i < 0 ∨ (s.sm.length : Int) ≤ i
  · rw [stepR_out hr]; exact h
  · obtain ⟨j, rfl⟩ := Int.eq_ofNat_of_zero_le (show 0 ≤ i by omega)
    obtain ⟨x, hx⟩ := exE (T := s.sm) (i := j) (by omega)
    by_cases e : x = fr
    · subst e
      rw [stepR_ok hx]
      refine ⟨fun k => ?_, h.nd, by dsimp only; rw [List.length_set]; exact h.len, h.vld⟩
      dsimp only
      rw [List.getElem?_set, ← h.prk k]
      by_cases q : j = k
      · subst q
        rw [if_pos rfl, if_pos (List.getElem?_eq_some_iff.1 hx).1, hx]
        simp [hf, ht]
      · rw [if_neg q]
    · rw [stepR_bad hx e]; exact h
theorem PsOk.add_ (h : PsOk s) {i : Nat} {at_ : Sp} (hi : s.sm[i]? = some 1) (ha : vldS at_) : PsOk (s.add i at_) := by
  unfold PS.add
  rw [stepR_ok hi]
  have hno : ∀ w ∈ s.W, w.i ≠ i := fun w hw e => by
    have := (h.prk i).2 ⟨w, hw, e⟩
    rw [hi] at this; cases this
  refine ⟨fun k => ?_, ?_, by dsimp only; rw [List.length_set]; exact h.len, fun w hw => ?_⟩
  · dsimp only
    rw [List.getElem?_set]
    by_cases q : i = k
    · subst q
      rw [if_pos rfl, if_pos (List.getElem?_eq_some_iff.1 hi).1]
      exact ⟨fun _ => ⟨⟨i, at_⟩, List.mem_append_right _ (List.mem_singleton.2 rfl), rfl⟩, fun _ => rfl⟩
    · rw [if_neg q, h.prk k]
      constructor
      · rintro ⟨w, hw, e⟩; exact ⟨w, List.mem_append_left _ hw, e⟩
      · rintro ⟨w, hw, e⟩
        rcases List.mem_append.1 hw with hw | hw
        · exact ⟨w, hw, e⟩
        · rw [List.mem_singleton] at hw; subst hw; exact absurd e q
  · dsimp only
    rw [List.map_append, List.nodup_append]
    refine ⟨h.nd, by simp, fun x hx y hy => ?_⟩
    obtain ⟨w, hw, rfl⟩ := List.mem_map.1 hx
    have := hno w hw
    simp at hy
    omega
  · rcases List.mem_append.1 hw with hw | hw
    · exact h.vld w hw
    · rw [List.mem_singleton] at hw; subst hw; exact ha
theorem PsOk.out_ (h : PsOk s) {w : Wt} (hw : w ∈ s.W) : PsOk (s.out w.i) := by
  have hi := (h.prk w.i).2 ⟨w, hw, rfl⟩
  unfold PS.out
  rw [stepR_ok hi]
  refine ⟨fun k => ?_, ?_, by dsimp only; rw [List.length_set]; exact h.len, fun u hu => h.vld u (wOut_mem.1 hu).1⟩
  · dsimp only
    rw [List.getElem?_set]
    by_cases q : w.i = k
    · subst q
      rw [if_pos rfl, if_pos (List.getElem?_eq_some_iff.1 hi).1]
      constructor
      · intro e; cases e
      · rintro ⟨u, hu, e⟩
        exact absurd (by omega) (wOut_mem.1 hu).2
    · rw [if_neg q, h.prk k]
      constructor
      · rintro ⟨u, hu, e⟩; exact ⟨u, wOut_mem.2 ⟨hu, by omega⟩, e⟩
      · rintro ⟨u, hu, e⟩; exact ⟨u, (wOut_mem.1 hu).1, e⟩
  · exact h.nd.sublist ((List.filter_sublist (l := s.W)).map _)
theorem PsOk.few (h : PsOk s) : s.W.length ≤ 64 := by
  have h2 := pigeon (s.W.map (·.i)) (List.range s.sm.length) h.nd (fun k hk => by
    obtain ⟨w, hw, rfl⟩ := List.mem_map.1 hk
    exact List.mem_range.2 (List.getElem?_eq_some_iff.1 ((h.prk w.i).2 ⟨w, hw, rfl⟩)).1)
  rw [List.length_map, List.length_range] at h2
  have := h.len
  omega
theorem wAt_len (W : List Wt) (s : Sp) : (wAt W s).length ≤ W.length := by
  unfold wAt; rw [List.length_map]; exact List.length_filter_le _ _
theorem PsOk.parked (h : PsOk s) {at_ : Sp} {v : Int} (hv : v ∈ wAt s.W at_) : ∃ w ∈ s.W, w.at_ = at_ ∧ (w.i : Int) = v := wAt_mem.1 hv
theorem park_ok' (h : PsOk s) {i : Nat} {at_ : Sp} (hi : s.sm[i]? = some 1) (ha : vldS at_) : s.parkE i at_ = 0 ∧ s.park i at_ = s.add i at_ := by
  have e : s.parkE i at_ = 0 := by unfold PS.parkE; rw [stR_in hi, if_neg (by simp), if_pos ha, if_pos rfl]
  exact ⟨e, by unfold PS.park; rw [if_pos e, Int.toNat_natCast]⟩
theorem park_no (s : PS) {i : Int} {at_ : Sp} (h : s.parkE i at_ ≠ 0) : s.park i at_ = s := by unfold PS.park; rw [if_neg h]
theorem leave_no (s : PS) {i : Int} (h : (s.whr i).2 ≠ 0) : s.leave i = s := by unfold PS.leave; rw [if_neg h]
theorem leave_yes (s : PS) {i : Int} (h : (s.whr i).2 = 0) : s.leave i = s.out i := by unfold PS.leave; rw [if_pos h]
theorem whr_some (h : PsOk s) {i : Int} (hz : (s.whr i).2 = 0) : ∃ w ∈ s.W, i = (w.i : Int) ∧ s.whr i = (w.at_, 0) := by
  by_cases hr : i < 0 ∨ (s.sm.length : Int) ≤ i
  · rw [h.whr_out hr] at hz; cases hz
  · obtain ⟨j, rfl⟩ := Int.eq_ofNat_of_zero_le (show 0 ≤ i by omega)
    obtain ⟨x, hx⟩ := exE (T := s.sm) (i := j) (by omega)
    by_cases e : x = 2
    · subst e
      obtain ⟨w, hw, rfl⟩ := (h.prk j).1 hx
      exact ⟨w, hw, rfl, h.whr_yes hw⟩
    · rw [h.whr_no hx e] at hz; cases hz
/-- All of a spot are woken, one after the other. -/
theorem wakes_ok (h : PsOk s) (at_ : Sp) : ∀ (k : Nat), k ≤ (wAt s.W at_).length → PsOk (((wAt s.W at_).take k).foldl PS.out s) ∧ wAt (((wAt s.W at_).take k).foldl PS.out s).W at_ = (wAt s.W at_).drop k ∧ (((wAt s.W at_).take k).foldl PS.out s).sm.length = s.sm.length := by
  intro k
  induction k with
  | zero => intro _; rw [List.take_zero, List.foldl_nil, List.drop_zero]; exact ⟨h, rfl, rfl⟩
  | succ k ih =>
    intro hk
    obtain ⟨h1, h2, h3⟩ := ih (by omega)
    obtain ⟨v, hv⟩ := exE (T := wAt s.W at_) (i := k) (by omega)
    have hd : (wAt s.W at_).drop k = v :: (wAt s.W at_).drop (k + 1) := by
      obtain ⟨hl, rfl⟩ := List.getElem?_eq_some_iff.1 hv
      exact List.drop_eq_getElem_cons hl
    rw [take_get hv, List.foldl_append, List.foldl_cons, List.foldl_nil]
    rw [hd] at h2
    obtain ⟨w, hw, ha, rfl⟩ := wAt_mem.1 (show v ∈ wAt (((wAt s.W at_).take k).foldl PS.out s).W at_ by rw [h2]; exact List.mem_cons_self ..)
    refine ⟨h1.out_ hw, ?_, ?_⟩
    · show wAt (wOut _ _) at_ = _
      rw [wAt_out, h2]
      have hnd : ((w.i : Int) :: (wAt s.W at_).drop (k + 1)).Nodup := by rw [← h2]; exact wAt_nodup h1.nd at_
      rw [List.nodup_cons] at hnd
      rw [List.filter_cons_of_neg (by simp)]
      exact List.filter_eq_self.2 fun x hx => decide_eq_true fun e => hnd.1 (e ▸ hx)
    · show (stepR _ _ _ _ _).2.1.length = _
      rw [stepR_len, h3]
end

end Go.Proofs.Ytljmeemgjbcgeaa
