/-
  Chapter 46 (pool), part HoldL: contracts of functions that the laws call, each for the heap it names.
-/
import Derived.Test.YteofigbgdbpjgaaTells
set_option linter.unusedVariables false
set_option maxRecDepth 20000
namespace Go.Proofs.Yteofigbgdbpjgaa


def stV (x : Int) : Int := if x = 1 then 1 else if x = 2 then 2 else 0
/-- What each connection is for somebody: 1 dialed, 2 used. -/
def hOf (C : List Cn) (i : Nat) : Int := match C[i]? with
  | some x => stV x.st
  | none => 0
def updH (h : Nat → Int) (i : Nat) (v : Int) : Nat → Int := fun j => if j = i then v else h j
def appE (h : Nat → Int) : List Pv → Option (Nat → Int)
  | [] => some h
  | e :: r => if e.k ≠ 1 ∧ e.k ≠ 2 then appE h r else if 0 ≤ e.c ∧ e.c < 64 ∧ h e.c.toNat = 0 then appE (updH h e.c.toNat (if e.k = 1 then 2 else 1)) r else none
theorem appE_app : ∀ (A B : List Pv) (h : Nat → Int), appE h (A ++ B) = (appE h A).bind (fun h2 => appE h2 B)
  | [], _, _ => rfl
  | e :: r, B, h => by
    simp only [List.cons_append, appE]
    split
    · exact appE_app r B h
    · split
      · exact appE_app r B _
      · rfl
theorem appE_quiet {h : Nat → Int} : ∀ {E : List Pv}, (∀ e ∈ E, e.k ≠ 1 ∧ e.k ≠ 2) → appE h E = some h
  | [], _ => rfl
  | e :: r, he => by
    unfold appE
    rw [if_pos (he e (List.mem_cons_self ..)), appE_quiet fun x hx => he x (List.mem_cons_of_mem _ hx)]
theorem appE_one {h : Nat → Int} {k who : Int} {i : Nat} (hk : k = 1 ∨ k = 2) (hi : i < 64) (h0 : h i = 0) : appE h [⟨k, who, (i : Int)⟩] = some (updH h i (if k = 1 then 2 else 1)) := by
  unfold appE
  rw [if_neg (by dsimp only; omega), if_pos ⟨by dsimp only; omega, by dsimp only; omega, by dsimp only; rw [Int.toNat_natCast]; exact h0⟩]
  dsimp only
  rw [Int.toNat_natCast]; rfl
theorem updH_same (h : Nat → Int) (i : Nat) : updH h i (h i) = h := funext fun j => by unfold updH; split <;> simp_all
theorem updH_twice (h : Nat → Int) (i : Nat) (a b : Int) : updH (updH h i a) i b = updH h i b := funext fun j => by unfold updH; split <;> simp_all
theorem updH_at (h : Nat → Int) (i : Nat) (a : Int) : updH h i a i = a := by unfold updH; rw [if_pos rfl]
theorem updH_ne (h : Nat → Int) {i j : Nat} (a : Int) (e : j ≠ i) : updH h i a j = h j := by unfold updH; rw [if_neg e]
theorem hOf_at {C : List Cn} {i : Nat} {x : Cn} (h : C[i]? = some x) : hOf C i = stV x.st := by unfold hOf; rw [h]
theorem hOf_set {C : List Cn} {i : Nat} (h : i < C.length) (x : Cn) : hOf (C.set i x) = updH (hOf C) i (stV x.st) := funext fun j => by
  unfold hOf updH
  by_cases e : j = i
  · subst e
    rw [if_pos rfl, List.getElem?_set_self h]
  · rw [if_neg e, List.getElem?_set_ne (fun e2 => e e2.symm)]
/-! counts -/
abbrev cn (t : Int) (C : List Cn) : Nat := C.countP (fun x => decide (x.st = t))
theorem allF_cn (t : Int) : ∀ (C : List Cn) (k : Nat), (allF t k C).length = cn t C
  | [], _ => rfl
  | x :: r, k => by
    have ih := allF_cn t r (k + 1)
    unfold allF cn
    rw [List.countP_cons]
    by_cases e : x.st = t
    · rw [if_pos e, if_pos (decide_eq_true e), List.length_cons, ih]
    · rw [if_neg e, if_neg (by simpa using e), ih]; rfl
theorem cnt_cn (s : PS) (t : Int) : s.cnt t = cn t s.C := allF_cn t s.C 0
theorem cn_set (t : Int) : ∀ {C : List Cn} {i : Nat} {x : Cn} (y : Cn), C[i]? = some x → cn t (C.set i y) + (if x.st = t then 1 else 0) = cn t C + (if y.st = t then 1 else 0)
  | [], _, _, _, h => by simp at h
  | z :: r, 0, x, y, h => by
    simp at h; subst h
    rw [List.set_cons_zero]
    unfold cn
    rw [List.countP_cons, List.countP_cons]
    simp only [decide_eq_true_eq]
    omega
  | z :: r, i + 1, x, y, h => by
    have ih := cn_set t (C := r) (i := i) y (by simpa using h)
    rw [List.set_cons_succ]
    unfold cn at ih ⊢
    rw [List.countP_cons, List.countP_cons]
    omega
theorem cn_sum : ∀ {C : List Cn}, (∀ x ∈ C, 0 ≤ x.st ∧ x.st ≤ 3) → cn 0 C + cn 1 C + cn 2 C + cn 3 C = C.length
  | [], _ => rfl
  | x :: r, h => by
    have ih := cn_sum (C := r) fun y hy => h y (List.mem_cons_of_mem _ hy)
    have hx := h x (List.mem_cons_self ..)
    unfold cn at ih ⊢
    rw [List.countP_cons, List.countP_cons, List.countP_cons, List.countP_cons, List.length_cons]
    simp only [decide_eq_true_eq]
    (repeat' split) <;> omega
theorem cn_pos {t : Int} {C : List Cn} {i : Nat} {x : Cn} (h : C[i]? = some x) (hx : x.st = t) : 0 < cn t C := List.countP_pos_iff.2 ⟨x, List.mem_of_getElem? h, decide_eq_true hx⟩
theorem cn_nil {t : Int} {C : List Cn} (h : allI t C = []) : cn t C = 0 := by rw [← allF_cn t C 0]; exact congrArg List.length h
theorem b0_ : (0 : Int) ≤ 0 ∧ (0 : Int) ≤ 3 := by decide
theorem b1_ : (0 : Int) ≤ 1 ∧ (1 : Int) ≤ 3 := by decide
theorem b2_ : (0 : Int) ≤ 2 ∧ (2 : Int) ≤ 3 := by decide
theorem b3_ : (0 : Int) ≤ 3 ∧ (3 : Int) ≤ 3 := by decide
structure PH (s : PS) : Prop where
  len : s.C.length = 64
  st : ∀ x ∈ s.C, 0 ≤ x.st ∧ x.st ≤ 3
  used : cn 1 s.C + cn 2 s.C + cn 3 s.C ≤ s.op
  idle : cn 3 s.C ≤ s.most
  wait : s.Q = [] ∨ (cn 3 s.C = 0 ∧ cn 1 s.C + cn 2 s.C + cn 3 s.C = s.op)
  op : s.op ≤ 64
def wt (s : PS) : Nat := 3 * cn 3 s.C + 2 * cn 2 s.C + cn 1 s.C + s.Q.length
theorem PH.room {s : PS} (h : PH s) : s.room = true ↔ cn 1 s.C + cn 2 s.C + cn 3 s.C < s.op := by
  have h1 := cn_sum h.st
  have h2 := allF_cn 0 s.C 0
  have h3 := h.len
  unfold PS.room PS.used
  rw [show (allI 0 s.C).length = cn 0 s.C from h2, decide_eq_true_eq]
  omega
/-- A connection turns into another one. -/
theorem PH.set {s : PS} (h : PH s) {i : Nat} {x y : Cn} (hx : s.C[i]? = some x) (hy : 0 ≤ y.st ∧ y.st ≤ 3) (h1 : y.st = 0 ∨ x.st ≠ 0 ∨ s.room = true) (h2 : y.st ≠ 3 ∨ cn 3 s.C < s.most) (h3 : s.Q = [] ∨ (x.st = 1 ∧ y.st = 2)) : PH (s.set i y) := by
  have e0 := cn_set 0 y hx
  have e1 := cn_set 1 y hx
  have e2 := cn_set 2 y hx
  have e3 := cn_set 3 y hx
  have hxm := h.st x (List.mem_of_getElem? hx)
  have hu := h.used
  have hi := h.idle
  have hr : y.st = 0 ∨ x.st ≠ 0 ∨ cn 1 s.C + cn 2 s.C + cn 3 s.C < s.op := by
    rcases h1 with e | e | e
    · exact .inl e
    · exact .inr (.inl e)
    · exact .inr (.inr (h.room.1 e))
  refine ⟨by show (s.C.set i y).length = 64; rw [List.length_set]; exact h.len, fun z hz => ?_, ?_, ?_, ?_, h.op⟩
  · rcases List.mem_or_eq_of_mem_set hz with hz | rfl
    · exact h.st z hz
    · exact hy
  · show cn 1 (s.C.set i y) + cn 2 (s.C.set i y) + cn 3 (s.C.set i y) ≤ s.op
    (repeat' split at e1) <;> (repeat' split at e2) <;> (repeat' split at e3) <;> omega
  · show cn 3 (s.C.set i y) ≤ s.most
    (repeat' split at e3) <;> omega
  · rcases h3 with h3 | ⟨h3, h4⟩
    · exact .inl h3
    · rcases h.wait with h5 | ⟨h5, h6⟩
      · exact .inl h5
      · right
        show cn 3 (s.C.set i y) = 0 ∧ cn 1 (s.C.set i y) + cn 2 (s.C.set i y) + cn 3 (s.C.set i y) = s.op
        rw [h3, h4] at e1 e2 e3
        simp at e1 e2 e3
        omega
theorem free_x {s : PS} (h : PH s) (hr : s.room = true) : ∃ x, s.C[s.free]? = some x ∧ x.st = 0 ∧ s.free < 64 := by
  obtain ⟨_, h2, x, h3, h4⟩ := PS.free_of (PS.room_ne hr h.len h.op)
  exact ⟨x, h3, h4, by rw [← h.len]; exact h2⟩
structure LoseR (s s' : PS) (k : Nat) (t : Int) : Prop where
  ph : PH s'
  ev : ∃ E2, s'.E = s.E ++ E2 ∧ appE (updH (hOf s.C) k 0) E2 = some (hOf s'.C) ∧ E2.length ≤ 1
  w : wt s' + (if t = 3 then 3 else if t = 2 then 2 else 1) ≤ wt s
  q : s'.Q = s.Q.drop 1
  n : s'.n = s.n
  now : s'.now = s.now
  op : s'.op = s.op
  most : s'.most = s.most
  none : s.Q = [] → s'.E = s.E ∧ hOf s'.C = updH (hOf s.C) k 0
theorem lose_R {s : PS} (h : PH s) {k : Nat} {x : Cn} (hx : s.C[k]? = some x) (hs : x.st ≠ 0) : LoseR s (s.lose k) k x.st := by
  have hk := (List.getElem?_eq_some_iff.1 hx).1
  have e1 := cn_set 1 (⟨0, 0, 0⟩ : Cn) hx
  have e2 := cn_set 2 (⟨0, 0, 0⟩ : Cn) hx
  have e3 := cn_set 3 (⟨0, 0, 0⟩ : Cn) hx
  simp only [show ¬ ((0 : Int) = 1) from by decide, show ¬ ((0 : Int) = 2) from by decide, show ¬ ((0 : Int) = 3) from by decide, if_false, Nat.add_zero] at e1 e2 e3
  have hxm := h.st x (List.mem_of_getElem? hx)
  have hset : hOf (s.set k ⟨0, 0, 0⟩).C = updH (hOf s.C) k 0 := hOf_set hk _
  cases hQ : s.Q with
  | nil =>
    have e : s.lose k = s.set k ⟨0, 0, 0⟩ := PS.next_nil hQ
    rw [e]
    refine ⟨h.set hx b0_ (.inl rfl) (.inl (by decide)) (.inl hQ), ⟨[], (List.append_nil _).symm, congrArg some hset.symm, Nat.zero_le _⟩, ?_, by show s.Q = _; rw [hQ]; rfl, rfl, rfl, rfl, rfl, fun _ => ⟨rfl, hset⟩⟩
    show 3 * cn 3 (s.C.set k ⟨0, 0, 0⟩) + 2 * cn 2 (s.C.set k ⟨0, 0, 0⟩) + cn 1 (s.C.set k ⟨0, 0, 0⟩) + s.Q.length + _ ≤ _
    unfold wt
    (repeat' split at e1) <;> (repeat' split at e2) <;> (repeat' split at e3) <;> (repeat' split) <;> omega
  | cons a r =>
    obtain ⟨hi0, hful⟩ : cn 3 s.C = 0 ∧ cn 1 s.C + cn 2 s.C + cn 3 s.C = s.op := by
      rcases h.wait with e | e
      · rw [hQ] at e; cases e
      · exact e
    -- the pool with the connection gone, as if nobody waited
    have h0 : PH { s.set k ⟨0, 0, 0⟩ with Q := [] } := by
      have h9 : PH { s with Q := [] } := ⟨h.len, h.st, h.used, h.idle, .inl rfl, h.op⟩
      exact h9.set hx b0_ (.inl rfl) (.inl (by decide)) (.inl rfl)
    have hr : (s.set k ⟨0, 0, 0⟩).room = true := by
      have := (h0.room).2 (by
        show cn 1 (s.C.set k ⟨0, 0, 0⟩) + cn 2 (s.C.set k ⟨0, 0, 0⟩) + cn 3 (s.C.set k ⟨0, 0, 0⟩) < s.op
        (repeat' split at e1) <;> (repeat' split at e2) <;> (repeat' split at e3) <;> omega)
      exact this
    have e : s.lose k = ((s.set k ⟨0, 0, 0⟩).pop.dial a.who).tell 2 a.who ((s.set k ⟨0, 0, 0⟩).free : Int) := PS.next_ok hQ hr
    obtain ⟨y, hy, hy0, hfl⟩ := free_x h0 hr
    have hy' : (s.C.set k ⟨0, 0, 0⟩)[(s.set k ⟨0, 0, 0⟩).free]? = some y := hy
    have hfl2 : (s.set k ⟨0, 0, 0⟩).free < 64 := hfl
    have hy2 : (s.set k ⟨0, 0, 0⟩).C[(s.set k ⟨0, 0, 0⟩).free]? = some y := hy
    have f1 := cn_set 1 (⟨1, a.who, 0⟩ : Cn) hy'
    have f2 := cn_set 2 (⟨1, a.who, 0⟩ : Cn) hy'
    have f3 := cn_set 3 (⟨1, a.who, 0⟩ : Cn) hy'
    rw [hy0] at f1 f2 f3
    simp only [show ¬ ((1 : Int) = 2) from by decide, show ¬ ((1 : Int) = 3) from by decide, show ¬ ((0 : Int) = 1) from by decide, show ¬ ((0 : Int) = 2) from by decide, show ¬ ((0 : Int) = 3) from by decide, if_false, if_true, Nat.add_zero] at f1 f2 f3
    have hC : (s.lose k).C = (s.C.set k ⟨0, 0, 0⟩).set (s.set k ⟨0, 0, 0⟩).free ⟨1, a.who, 0⟩ := by rw [e]; rfl
    have hQ' : (s.lose k).Q = r := by rw [e]; show s.Q.drop 1 = r; rw [hQ]; rfl
    have hop : (s.lose k).op = s.op := by rw [e]; rfl
    have hmo : (s.lose k).most = s.most := by rw [e]; rfl
    refine ⟨⟨by rw [hC, List.length_set, List.length_set]; exact h.len, fun z hz => ?_, ?_, ?_, .inr ⟨?_, ?_⟩, by rw [hop]; exact h.op⟩, ⟨[⟨2, a.who, ((s.set k ⟨0, 0, 0⟩).free : Int)⟩], by rw [e]; rfl, ?_, Nat.le_refl _⟩, ?_, by rw [hQ', hQ]; rfl, by rw [e]; rfl, by rw [e]; rfl, hop, hmo, fun e9 => by rw [hQ] at e9; cases e9⟩
    · rw [hC] at hz
      rcases List.mem_or_eq_of_mem_set hz with hz | rfl
      · exact h0.st z hz
      · exact b1_
    · rw [hC, hop]; (repeat' split at e1) <;> (repeat' split at e2) <;> (repeat' split at e3) <;> omega
    · rw [hC, hmo]; have := h.idle; (repeat' split at e3) <;> omega
    · rw [hC]; (repeat' split at e3) <;> omega
    · rw [hC, hop]; (repeat' split at e1) <;> (repeat' split at e2) <;> (repeat' split at e3) <;> omega
    · rw [← hset, appE_one (.inr rfl) hfl2 (by rw [hOf_at hy2, hy0]; rfl), hC]
      exact congrArg some (hOf_set (C := s.C.set k ⟨0, 0, 0⟩) (by rw [List.length_set, h.len]; exact hfl2) ⟨1, a.who, 0⟩).symm
    · unfold wt
      rw [hC, hQ', hQ, List.length_cons]
      (repeat' split at e1) <;> (repeat' split at e2) <;> (repeat' split at e3) <;> (repeat' split) <;> omega

end Go.Proofs.Yteofigbgdbpjgaa
