/-
  Chapter 08 (task), part RoundL: contracts of functions that the laws call, each for the heap it names.
-/
import Derived.Test.YtojfdgckfbnciaaRows
import Derived.Test.YtojfdgckfbnciaaSLArray
import Derived.Test.YtojfdgckfbnciaaSLInt
import Derived.Test.YtojfdgckfbnciaaTab
import Derived.Test.YtojfdgckfbnciaaKnown
set_option linter.unusedVariables false
set_option maxRecDepth 20000
namespace Go.Proofs.Ytojfdgckfbnciaa


theorem tw_room {sm qm : List Int} {S : List (Int × Nat)} {Q : List (Nat × Int)} {n : Nat} {es : Array MapEntry} (h : Tw sm qm S Q n es) : qm.length ≤ 64 := by
  have := h.tk.room
  rw [← h.qm, List.length_map]; exact this
theorem tw_fresh {sm qm : List Int} {S : List (Int × Nat)} {Q : List (Nat × Int)} {n i : Nat} {es : Array MapEntry} {x : Int} (h : Tw sm qm S Q n es) (hi : sm[i]? = some x) (hx : x ≠ 1) : qm.filter (fun v => decide (v ≠ (i : Int))) = qm := by
  have hl : i < S.length := by
    have := (List.getElem?_eq_some_iff.1 hi).1
    rw [← h.sm, List.length_map] at this; exact this
  obtain ⟨⟨y, t⟩, hS⟩ := exE hl
  have hy : y = x := by
    rw [← h.sm, List.getElem?_map, hS] at hi
    simpa using hi
  rw [← h.qm]
  exact vals_same h.tk hS (by rw [hy]; exact hx)
theorem tw_head {sm r : List Int} {v : Int} {S : List (Int × Nat)} {Q : List (Nat × Int)} {n : Nat} {es : Array MapEntry} (h : Tw sm (v :: r) S Q n es) : ∃ i : Nat, v = (i : Int) ∧ sm[i]? = some 1 ∧ (v :: r).filter (fun w => decide (w ≠ (i : Int))) = r := by
  have hq := h.qm
  cases Q with
  | nil => cases hq
  | cons x Q =>
    obtain ⟨t, w⟩ := x
    simp only [List.map_cons, List.cons.injEq] at hq
    obtain ⟨rfl, rfl⟩ := hq
    obtain ⟨i, rfl, hS⟩ := h.tk.back t w (List.mem_cons_self ..)
    refine ⟨i, rfl, by rw [← h.sm, List.getElem?_map, hS]; rfl, ?_⟩
    exact vals_rem (A := []) h.tk
theorem doq_T {S S' : List (Int × Nat)} {Q Q' : List (Nat × Int)} {n n' i : Nat} {fr e : Int} {sm qm : List Int} {es es' : Array MapEntry} (hfr : fr ≠ 1) (hw : Tw sm qm S Q n es) (hM : Mp (.int .u64) ekQ evQ es' (nds 0 0 Q')) (h : DoQ S Q n fr 1 (i : Int) e S' Q' n') (hi : i < sm.length) (he : e = 0) :
    sm[i]? = some fr ∧ Tw (sm.set i 1) (qm ++ [(i : Int)]) S' Q' n' es' ∧ n' ≤ n + 1 := by
  obtain ⟨x, hx⟩ := exE hi
  by_cases e1 : x = fr
  · subst e1
    obtain ⟨_, h1, h2⟩ := doq_run hw hM h hx
    rw [tw_fresh hw hx hfr, if_pos rfl] at h1
    exact ⟨hx, h1, h2⟩
  · obtain ⟨h0, _⟩ := doq_bad hw hM h hx e1
    omega
theorem doq_F {S S' : List (Int × Nat)} {Q Q' : List (Nat × Int)} {n n' i : Nat} {fr to e : Int} {sm qm : List Int} {es es' : Array MapEntry} (hw : Tw sm qm S Q n es) (hM : Mp (.int .u64) ekQ evQ es' (nds 0 0 Q')) (h : DoQ S Q n fr to (i : Int) e S' Q' n') (hi : i < sm.length) (he : e ≠ 0) :
    Tw sm qm S' Q' n' es' ∧ n' ≤ n + 1 := by
  obtain ⟨x, hx⟩ := exE hi
  by_cases e1 : x = fr
  · subst e1
    exact absurd (doq_run hw hM h hx).1 he
  · exact (doq_bad hw hM h hx e1).2
theorem cnt_set {sm : List Int} {i : Nat} {x y : Int} (h : sm[i]? = some x) (z : Int) : (sm.set i y).count z + (if x = z then 1 else 0) = sm.count z + (if y = z then 1 else 0) := by
  induction sm generalizing i with
  | nil => cases h
  | cons a sm ih =>
    cases i with
    | zero =>
      simp only [List.getElem?_cons_zero, Option.some.injEq] at h
      subst h
      simp only [List.set_cons_zero, List.count_cons, beq_iff_eq]
      omega
    | succ i =>
      have := ih (i := i) (by simpa using h)
      simp only [List.set_cons_succ, List.count_cons]
      omega
abbrev encB (x : Nat) : List Value := [.int .u8 (x : Int)]
structure GS where
  k : Nat
  S : List (Int × Nat)
  Q : List (Nat × Int)
  n : Nat
  es : Array MapEntry
  mc : Nat
  tl : List Value
  sm : List Int
  qm : List Int
  ob : Option Nat
  c : Nat
  t2 : List Value
structure GsOk (m : Nat) (g : GS) : Prop where
  tw : Tw g.sm g.qm g.S g.Q g.n g.es
  len : g.sm.length = m
  own : Own g.ob g.qm.length g.c 1 (ivs g.qm) g.t2
structure PS where
  k : Nat
  S : List (Int × Nat)
  Q : List (Nat × Int)
  n : Nat
  es : Array MapEntry
  mc : Nat
  tl : List Value
  sm : List Int
theorem drop_get {l : List Int} {k : Nat} {v : Int} (h : l[k]? = some v) : l.drop k = v :: l.drop (k + 1) := by
  obtain ⟨h1, rfl⟩ := List.getElem?_eq_some_iff.1 h
  exact List.drop_eq_getElem_cons h1

end Go.Proofs.Ytojfdgckfbnciaa
