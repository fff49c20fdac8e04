/-
  Chapter 09 (park), part QueL: contracts of functions that the laws call, each for the heap it names.
-/
import Derived.Test.YtljmeemgjbcgeaaKnown
set_option linter.unusedVariables false
set_option maxRecDepth 20000
namespace Go.Proofs.Ytljmeemgjbcgeaa


/-- Who is ready is known by the states. -/
def PsQ (s : PS) : Prop := ∀ v ∈ s.qm, ∃ i : Nat, v = (i : Int) ∧ s.sm[i]? = some 1
theorem PkIs.rdy {N : Nat} {s : PS} {l : PkM} (h : PkIs N s l) : PsQ s := fun v hv => by
  rw [← h.tk.qm] at hv
  obtain ⟨⟨t, u⟩, hx, rfl⟩ := List.mem_map.1 hv
  obtain ⟨i, hi, hS⟩ := h.tk.tk.back t u hx
  exact ⟨i, hi, by rw [← h.tk.sm, List.getElem?_map, hS]; rfl⟩
theorem out_qm {s : PS} (h : PsOk s) (hq : PsQ s) {z : Wt} (hz : z ∈ s.W) : (s.out z.i).qm = s.qm ++ [(z.i : Int)] ∧ PsQ (s.out z.i) := by
  have hi := (h.prk z.i).2 ⟨z, hz, rfl⟩
  have hf : s.qm.filter (fun v => decide (v ≠ (z.i : Int))) = s.qm := List.filter_eq_self.2 fun v hv => decide_eq_true fun e => by
    obtain ⟨i, e1, e2⟩ := hq v hv
    rw [show i = z.i from by omega, hi] at e2
    cases e2
  have e : (s.out z.i).qm = s.qm ++ [(z.i : Int)] := by
    unfold PS.out
    rw [stepR_ok hi]
    show s.qm.filter _ ++ [(z.i : Int)] = _
    rw [hf]
  refine ⟨e, fun v hv => ?_⟩
  have e2 : (s.out z.i).sm = s.sm.set z.i 1 := by unfold PS.out; rw [stepR_ok hi]
  rw [e, List.mem_append, List.mem_singleton] at hv
  rw [e2]
  rcases hv with hv | rfl
  · obtain ⟨i, e3, e4⟩ := hq v hv
    refine ⟨i, e3, ?_⟩
    by_cases q : z.i = i
    · subst q; rw [hi] at e4; cases e4
    · rw [List.getElem?_set, if_neg q]; exact e4
  · exact ⟨z.i, rfl, by rw [List.getElem?_set, if_pos rfl, if_pos (List.getElem?_eq_some_iff.1 hi).1]⟩
theorem wakes_qm {s : PS} (h : PsOk s) (hq : PsQ s) (a : Sp) : ∀ k, k ≤ (s.waiting a).length → (((s.waiting a).take k).foldl PS.out s).qm = s.qm ++ (s.waiting a).take k ∧ PsQ (((s.waiting a).take k).foldl PS.out s) := by
  intro k
  induction k with
  | zero => intro _; rw [List.take_zero, List.foldl_nil, List.append_nil]; exact ⟨rfl, hq⟩
  | succ k ih =>
    intro hk
    obtain ⟨h1, h2⟩ := ih (by omega)
    obtain ⟨v, hx⟩ := exE (T := s.waiting a) (i := k) (by omega)
    obtain ⟨h3, _, z, hz, _, rfl⟩ := wakes_z h hx
    rw [take_get hx, List.foldl_append, List.foldl_cons, List.foldl_nil]
    obtain ⟨h4, h5⟩ := out_qm h3 h2 hz
    exact ⟨by rw [h4, h1, List.append_assoc], h5⟩
theorem wakes_other {s : PS} (h : PsOk s) {a b : Sp} (hab : a ≠ b) : ∀ k, k ≤ (s.waiting a).length → wAt (((s.waiting a).take k).foldl PS.out s).W b = wAt s.W b := by
  intro k
  induction k with
  | zero => intro _; rw [List.take_zero, List.foldl_nil]
  | succ k ih =>
    intro hk
    have h1 := ih (by omega)
    obtain ⟨v, hx⟩ := exE (T := s.waiting a) (i := k) (by omega)
    obtain ⟨h3, _, z, hz, hza, rfl⟩ := wakes_z h hx
    rw [take_get hx, List.foldl_append, List.foldl_cons, List.foldl_nil]
    show wAt (wOut _ _) b = _
    rw [wAt_out, h1]
    refine List.filter_eq_self.2 fun v hv => decide_eq_true fun e => ?_
    rw [← h1] at hv
    obtain ⟨u, hu, e1, e2⟩ := wAt_mem.1 hv
    have := wt_one h3.nd hu hz (by omega)
    subst this
    exact hab (hza.symm.trans e1)
theorem wakeAll_eq (s : PS) (a : Sp) : s.wakeAll a = (((s.waiting a).take (s.waiting a).length).foldl PS.out s) := by rw [List.take_length]; rfl
theorem waiting_v {s : PS} {a : Sp} (h : vldS a) : s.waiting a = wAt s.W a := if_pos h
theorem q_step {s : PS} {i : Nat} (h0 : s.sm[i]? = some 0) (hq : s.qm = []) : s.step 0 1 (i : Int) = ⟨s.sm.set i 1, [(i : Int)], s.W⟩ := by
  unfold PS.step
  rw [stepR_ok h0, hq]; rfl
theorem q_add {s : PS} {i : Nat} {a : Sp} (h1 : s.sm[i]? = some 1) (hq : s.qm = [(i : Int)]) : s.add i a = ⟨s.sm.set i 2, [], s.W ++ [⟨i, a⟩]⟩ := by
  unfold PS.add
  rw [stepR_ok h1, hq]
  simp
structure QW where
  i : Nat
  N : Nat
  s : PS
  m : PkM
  A : List Int
  oa : Option Nat
  ca : Nat
  ta : List Value
  B : List Int
  ob : Option Nat
  cb : Nat
  tb : List Value
structure Q2 where
  k : Nat
  m : PkM

end Go.Proofs.Ytljmeemgjbcgeaa
