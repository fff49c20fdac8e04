/-
  Chapter 46 (pool), part PoolL: contracts of functions that the laws call, each for the heap it names.
-/
import Derived.Test.YteofigbgdbpjgaaFifoL
import Derived.Test.YteofigbgdbpjgaaCmpL
import Derived.Test.YteofigbgdbpjgaaZB
set_option linter.unusedVariables false
set_option maxRecDepth 20000
namespace Go.Proofs.Yteofigbgdbpjgaa


structure Cn where
  st : Int
  who : Int
  since : Nat
abbrev encC (x : Cn) : List Value := [.int .i64 x.st, .int .i64 x.who, .int .u64 (x.since : Int)]
theorem encC3 (x : Cn) : (encC x).length = 3 := rfl
structure Qp where
  t : Nat
  who : Int
  dl : Nat
structure Pv where
  k : Int
  who : Int
  c : Int
abbrev encV (x : Pv) : List Value := [.int .i64 x.k, .int .i64 x.who, .int .i64 x.c]
abbrev pvV (x : Pv) : Value := .agg #[.int .i64 x.k, .int .i64 x.who, .int .i64 x.c]
theorem encV3 (x : Pv) : (encV x).length = 3 := rfl
theorem encV_one (E : List Pv) : (E.flatMap encV).all Value.oneCell' = true := fm_all (fun _ => rfl) E
/-- A pool by its document. -/
structure PS where
  op : Nat
  most : Nat
  keep : Nat
  now : Nat
  C : List Cn
  Q : List Qp
  n : Nat
  E : List Pv
abbrev fq (Q : List Qp) : List (Nat × Int) := Q.map fun x => (x.t, x.who)
abbrev wq (Q : List Qp) : List (Int × (Nat × Nat)) := Q.map fun x => (x.who, (x.t, x.dl))
abbrev ekW (k : Int) : Value := .int .i64 k
abbrev evW (x : Nat × Nat) : Value := .agg #[.int .u64 (x.1 : Int), .int .u64 (x.2 : Int)]
/-- The numbers of what is in a state. -/
def allF (s : Int) : Nat → List Cn → List Int
  | _, [] => []
  | k, x :: r => if x.st = s then (k : Int) :: allF s (k + 1) r else allF s (k + 1) r
abbrev allI (s : Int) (C : List Cn) : List Int := allF s 0 C
theorem allF_app (s : Int) : ∀ (A B : List Cn) (k : Nat), allF s k (A ++ B) = allF s k A ++ allF s (k + A.length) B
  | [], B, k => by simp [allF]
  | x :: A, B, k => by
    have ih := allF_app s A B (k + 1)
    rw [List.cons_append, allF, allF, ih, List.length_cons, show k + (A.length + 1) = k + 1 + A.length from by omega]
    split <;> simp
theorem allI_next {s : Int} {C : List Cn} {i : Nat} {x : Cn} (h : C[i]? = some x) : allI s (C.take (i + 1)) = allI s (C.take i) ++ (if x.st = s then [(i : Int)] else []) := by
  have hl := (List.getElem?_eq_some_iff.1 h).1
  rw [take_next h, allI, allF_app, List.length_take]
  congr 1
  rw [Nat.min_eq_left (by omega), Nat.zero_add]
  unfold allF allF
  rfl
theorem allF_len (s : Int) : ∀ (C : List Cn) (k : Nat), (allF s k C).length ≤ C.length
  | [], _ => Nat.le_refl _
  | x :: r, k => by
    have := allF_len s r (k + 1)
    unfold allF
    split <;> simp only [List.length_cons] <;> omega
theorem allF_mem {s : Int} : ∀ {C : List Cn} {k : Nat} {a : Int}, a ∈ allF s k C → ∃ (i : Nat) (x : Cn), a = ((k + i : Nat) : Int) ∧ C[i]? = some x ∧ x.st = s
  | [], _, _, h => by simp [allF] at h
  | x :: r, k, a, h => by
    have rec2 : a ∈ allF s (k + 1) r → ∃ (i : Nat) (y : Cn), a = ((k + i : Nat) : Int) ∧ (x :: r)[i]? = some y ∧ y.st = s := fun h2 => by
      obtain ⟨i, y, h3, h4, h5⟩ := allF_mem h2
      exact ⟨i + 1, y, by rw [h3]; omega, by simpa using h4, h5⟩
    unfold allF at h
    split at h
    · rename_i hx
      rcases List.mem_cons.1 h with rfl | h2
      · exact ⟨0, x, rfl, rfl, hx⟩
      · exact rec2 h2
    · exact rec2 h
theorem allF_in {s : Int} : ∀ {C : List Cn} {k i : Nat} {x : Cn}, C[i]? = some x → x.st = s → ((k + i : Nat) : Int) ∈ allF s k C
  | [], _, _, _, h, _ => by simp at h
  | y :: r, k, 0, x, h, hx => by
    simp at h; subst h
    unfold allF; rw [if_pos hx]; exact List.mem_cons_self ..
  | y :: r, k, i + 1, x, h, hx => by
    have ih := allF_in (k := k + 1) (i := i) (x := x) (C := r) (by simpa using h) hx
    rw [show k + 1 + i = k + (i + 1) from by omega] at ih
    unfold allF
    split
    · exact List.mem_cons_of_mem _ ih
    · exact ih
theorem allI_mem {s : Int} {C : List Cn} {a : Int} (h : a ∈ allI s C) : ∃ (i : Nat) (x : Cn), a = (i : Int) ∧ C[i]? = some x ∧ x.st = s := by
  obtain ⟨i, x, h1, h2, h3⟩ := allF_mem h
  exact ⟨i, x, by rw [h1, Nat.zero_add], h2, h3⟩
theorem allI_in {s : Int} {C : List Cn} {i : Nat} {x : Cn} (h : C[i]? = some x) (hx : x.st = s) : (i : Int) ∈ allI s C := by
  have := allF_in (k := 0) h hx
  rwa [Nat.zero_add] at this
theorem allI_len (s : Int) (C : List Cn) : (allI s C).length ≤ C.length := allF_len s C 0
/-- How many there are that are not gone; the first that is. -/
def PS.used (s : PS) : Nat := 64 - (allI 0 s.C).length
def PS.room (s : PS) : Bool := decide (s.used < s.op)
def PS.free (s : PS) : Nat := match allI 0 s.C with
  | [] => 0
  | a :: _ => a.toNat
def PS.set (s : PS) (i : Nat) (x : Cn) : PS := { s with C := s.C.set i x }
def PS.tell (s : PS) (k who c : Int) : PS := { s with E := s.E ++ [⟨k, who, c⟩] }
def PS.pop (s : PS) : PS := { s with Q := s.Q.drop 1 }
def PS.dial (s : PS) (who : Int) : PS := s.set s.free ⟨1, who, 0⟩
def PS.at_ (s : PS) (now : Nat) : PS := { s with now := now }
/-- The first who waits gets a new connection, if there is room. -/
def PS.next (s : PS) : PS := match s.Q with
  | [] => s
  | x :: _ => if s.room = true then ((s.pop.dial x.who).tell 2 x.who (s.free : Int)) else s
def PS.lose (s : PS) (c : Nat) : PS := (s.set c ⟨0, 0, 0⟩).next
def PS.may (s : PS) (right : Bool) (now : Nat) : Int := if right = false then 2 else if now < s.now ∨ now = 18446744073709551615 then 3 else 0
def PS.waits (s : PS) (who : Int) : Bool := s.Q.any fun x => decide (x.who = who)
def PS.dials (s : PS) (who : Int) : Bool := s.C.any fun x => decide (x.st = 1 ∧ x.who = who)
def sinceI (C : List Cn) (a : Int) : Nat := match C[a.toNat]? with
  | some x => x.since
  | none => 0
def lexI (x y a b : Int) : Int := orL [cmpI x y, cmpI a b]
def idleC (C : List Cn) (a b : Int) : Int := lexI (sinceI C a) (sinceI C b) a b
/-- The one of the idle connections that was put back last. -/
abbrev PS.last (s : PS) : Int := sel (fun a b => decide (0 < idleC s.C a b)) (allI 3 s.C)
def getE_ (s : PS) (who : Int) (now dl : Nat) : Int :=
  if s.may (decide (0 ≤ who ∧ who ≤ 1000)) now ≠ 0 then s.may (decide (0 ≤ who ∧ who ≤ 1000)) now
  else if dl ≤ now then 3 else if s.waits who || s.dials who then 11 else 0
def PS.getS (s : PS) (who : Int) (now dl : Nat) : PS :=
  if getE_ s who now dl ≠ 0 then s
  else if allI 3 s.C ≠ [] then (s.at_ now).set s.last.toNat ⟨2, 0, 0⟩
  else if s.room = true then (s.at_ now).dial who
  else { s with now := now, Q := s.Q ++ [⟨s.n + 1, who, dl⟩], n := s.n + 1 }
def PS.getV (s : PS) (who : Int) (now dl : Nat) : Pv :=
  if getE_ s who now dl ≠ 0 then ⟨0, 0, 0⟩
  else if allI 3 s.C ≠ [] then ⟨1, who, s.last⟩
  else if s.room = true then ⟨2, who, (s.free : Int)⟩
  else ⟨3, who, -1⟩
/-- The error of a call for a connection. -/
def PS.inE (s : PS) (c st : Int) (now : Nat) : Int :=
  if s.may (decide (0 ≤ c)) now ≠ 0 then s.may (decide (0 ≤ c)) now
  else if 64 ≤ c ∨ (s.C[c.toNat]?.map (·.st)) ≠ some st then 9 else 0
def PS.dialed (s : PS) (c : Int) (made : Bool) (now : Nat) : PS :=
  if s.inE c 1 now ≠ 0 then s else if made = true then (s.at_ now).set c.toNat ⟨2, 0, 0⟩ else (s.at_ now).lose c.toNat
def PS.put (s : PS) (c : Int) (good : Bool) (now : Nat) : PS :=
  if s.inE c 2 now ≠ 0 then s
  else match good, s.Q with
    | true, x :: _ => ((s.at_ now).pop).tell 1 x.who c
    | true, [] => if (allI 3 s.C).length < s.most then (s.at_ now).set c.toNat ⟨3, 0, now⟩ else ((s.at_ now).tell 5 (-1) c).lose c.toNat
    | false, _ => ((s.at_ now).tell 5 (-1) c).lose c.toNat
def PS.leave (s : PS) (who : Int) : PS := { s with Q := s.Q.filter fun x => decide (x.who ≠ who) }
def PS.canE (s : PS) (who : Int) (now : Nat) : Int :=
  if s.may (decide (0 ≤ who ∧ who ≤ 1000)) now ≠ 0 then s.may (decide (0 ≤ who ∧ who ≤ 1000)) now else if s.waits who = true then 0 else 9
def PS.cancel (s : PS) (who : Int) (now : Nat) : PS := if s.canE who now ≠ 0 then s else (s.at_ now).leave who
def PS.nx (s : PS) : PS := { s with E := s.E.drop 1 }
def PS.new (op most keep : Nat) : PS := ⟨op, most, keep, 0, List.replicate 64 ⟨0, 0, 0⟩, [], 0, []⟩
/-- What is there of each. -/
def PS.cnt (s : PS) (st : Int) : Nat := (allI st s.C).length
theorem PS.free_of {s : PS} (h : allI 0 s.C ≠ []) : (allI 0 s.C)[0]? = some (s.free : Int) ∧ s.free < s.C.length ∧ ∃ x, s.C[s.free]? = some x ∧ x.st = 0 := by
  cases e : allI 0 s.C with
  | nil => exact absurd e h
  | cons a r =>
    obtain ⟨i, x, h1, h2, h3⟩ := allI_mem (s := 0) (C := s.C) (a := a) (by rw [e]; exact List.mem_cons_self ..)
    have hf : s.free = i := by unfold PS.free; rw [e]; show a.toNat = i; omega
    rw [hf]
    exact ⟨by rw [h1]; rfl, (List.getElem?_eq_some_iff.1 h2).1, x, h2, h3⟩
theorem PS.room_ne {s : PS} (h : s.room = true) (hc : s.C.length = 64) (ho : s.op ≤ 64) : allI 0 s.C ≠ [] := fun e => by
  unfold PS.room PS.used at h
  rw [e] at h
  have := of_decide_eq_true h
  simp at this; omega
theorem inE_may {s : PS} {c st : Int} {now : Nat} (h : s.may (decide (0 ≤ c)) now ≠ 0) : s.inE c st now = s.may (decide (0 ≤ c)) now := by unfold PS.inE; rw [if_pos h]
theorem inE_none {s : PS} {c st : Int} {now : Nat} (h : s.may (decide (0 ≤ c)) now = 0) (h2 : 64 ≤ c ∨ (s.C[c.toNat]?.map (·.st)) ≠ some st) : s.inE c st now = 9 := by unfold PS.inE; rw [if_neg (by rw [h]; decide), if_pos h2]
theorem inE_ok {s : PS} {c st : Int} {now : Nat} (h : s.may (decide (0 ≤ c)) now = 0) (h2 : ¬ (64 ≤ c ∨ (s.C[c.toNat]?.map (·.st)) ≠ some st)) : s.inE c st now = 0 := by unfold PS.inE; rw [if_neg (by rw [h]; decide), if_neg h2]
theorem may_zero {s : PS} {right : Bool} {now : Nat} (h : s.may right now = 0) : right = true ∧ s.now ≤ now ∧ now ≠ 18446744073709551615 := by
  unfold PS.may at h
  split at h
  · cases h
  · rename_i hr
    split at h
    · cases h
    · rename_i h2
      exact ⟨by simpa using hr, by omega, by omega⟩
theorem inE_zero {s : PS} {c st : Int} {now : Nat} (h : s.inE c st now = 0) : ∃ (k : Nat) (x : Cn), c = (k : Int) ∧ k < 64 ∧ s.C[k]? = some x ∧ x.st = st ∧ s.now ≤ now ∧ now ≠ 18446744073709551615 := by
  unfold PS.inE at h
  split at h
  · rename_i h1; exact absurd h h1
  · rename_i h1
    have h1' : s.may (decide (0 ≤ c)) now = 0 := Decidable.byContradiction h1
    obtain ⟨h2, h3, h4⟩ := may_zero h1'
    split at h
    · cases h
    · rename_i h5
      have h0 : 0 ≤ c := of_decide_eq_true h2
      have h6 : s.C[c.toNat]?.map (·.st) = some st := Decidable.byContradiction fun e => h5 (.inr e)
      cases hx : s.C[c.toNat]? with
      | none => rw [hx] at h6; cases h6
      | some x =>
        rw [hx] at h6
        exact ⟨c.toNat, x, by omega, by omega, hx, Option.some.inj h6, h3, h4⟩
theorem dialed_no {s : PS} {c : Int} {made : Bool} {now : Nat} (h : s.inE c 1 now ≠ 0) : s.dialed c made now = s := by unfold PS.dialed; rw [if_pos h]
theorem dialed_made {s : PS} {k now : Nat} (h : s.inE (k : Int) 1 now = 0) : s.dialed (k : Int) true now = (s.at_ now).set k ⟨2, 0, 0⟩ := by unfold PS.dialed; rw [if_neg (by rw [h]; decide), if_pos rfl, Int.toNat_natCast]
theorem dialed_lost {s : PS} {k now : Nat} (h : s.inE (k : Int) 1 now = 0) : s.dialed (k : Int) false now = (s.at_ now).lose k := by unfold PS.dialed; rw [if_neg (by rw [h]; decide), if_neg (by decide), Int.toNat_natCast]
theorem put_no {s : PS} {c : Int} {good : Bool} {now : Nat} (h : s.inE c 2 now ≠ 0) : s.put c good now = s := by unfold PS.put; rw [if_pos h]
theorem put_use {s : PS} {k now : Nat} {x : Qp} {r : List Qp} (h : s.inE (k : Int) 2 now = 0) (hQ : s.Q = x :: r) : s.put (k : Int) true now = ((s.at_ now).pop).tell 1 x.who (k : Int) := by unfold PS.put; rw [if_neg (by rw [h]; decide), hQ]
theorem put_idle {s : PS} {k now : Nat} (h : s.inE (k : Int) 2 now = 0) (hQ : s.Q = []) (hl : (allI 3 s.C).length < s.most) : s.put (k : Int) true now = (s.at_ now).set k ⟨3, 0, now⟩ := by unfold PS.put; rw [if_neg (by rw [h]; decide), hQ]; dsimp only; rw [if_pos hl, Int.toNat_natCast]
theorem put_over {s : PS} {k now : Nat} (h : s.inE (k : Int) 2 now = 0) (hQ : s.Q = []) (hl : ¬ (allI 3 s.C).length < s.most) : s.put (k : Int) true now = ((s.at_ now).tell 5 (-1) (k : Int)).lose k := by unfold PS.put; rw [if_neg (by rw [h]; decide), hQ]; dsimp only; rw [if_neg hl, Int.toNat_natCast]
theorem put_bad {s : PS} {k now : Nat} (h : s.inE (k : Int) 2 now = 0) : s.put (k : Int) false now = ((s.at_ now).tell 5 (-1) (k : Int)).lose k := by unfold PS.put; rw [if_neg (by rw [h]; decide)]; dsimp only; rw [Int.toNat_natCast]
theorem leave_eq {s : PS} {A B : List Qp} {x : Qp} (hQ : s.Q = A ++ x :: B) (hn : (s.Q.map (·.who)).Nodup) : s.leave x.who = { s with Q := A ++ B } := by
  rw [hQ] at hn
  have hx : ∀ y ∈ A ++ B, y.who ≠ x.who := fun y hy e => by
    have h1 := ((List.perm_middle (l₁ := A) (a := x) (l₂ := B)).map (fun y : Qp => y.who)).nodup_iff.1 hn
    rw [List.map_cons, List.nodup_cons] at h1
    exact h1.1 (by rw [← e]; exact List.mem_map_of_mem hy)
  unfold PS.leave
  rw [hQ, List.filter_append, List.filter_cons_of_neg (by simp), ← List.filter_append, List.filter_eq_self.2 fun y hy => decide_eq_true (hx y hy)]
theorem waits_or (s : PS) (who : Int) : (∃ A x B, s.Q = A ++ x :: B ∧ x.who = who) ∨ (s.waits who = false ∧ who ∉ (wq s.Q).map (·.1)) := by
  cases e : s.waits who with
  | true =>
    unfold PS.waits at e
    obtain ⟨x, hx, hw⟩ := List.any_eq_true.1 e
    obtain ⟨A, B, hAB⟩ := List.append_of_mem hx
    exact .inl ⟨A, x, B, hAB, of_decide_eq_true hw⟩
  | false =>
    refine .inr ⟨rfl, fun hm => ?_⟩
    rw [List.map_map] at hm
    obtain ⟨x, hx, hw⟩ := List.mem_map.1 hm
    unfold PS.waits at e
    have := List.any_eq_false.1 e x hx
    simp only [decide_eq_true_eq] at this
    exact this hw
theorem waits_in {s : PS} {A B : List Qp} {x : Qp} (hQ : s.Q = A ++ x :: B) : s.waits x.who = true := by
  unfold PS.waits; rw [hQ]; exact List.any_eq_true.2 ⟨x, List.mem_append_right _ (List.mem_cons_self ..), decide_eq_true rfl⟩
theorem canE_may {s : PS} {who : Int} {now : Nat} (h : s.may (decide (0 ≤ who ∧ who ≤ 1000)) now ≠ 0) : s.canE who now = s.may (decide (0 ≤ who ∧ who ≤ 1000)) now := by unfold PS.canE; rw [if_pos h]
theorem canE_no {s : PS} {who : Int} {now : Nat} (h : s.may (decide (0 ≤ who ∧ who ≤ 1000)) now = 0) (hw : s.waits who = false) : s.canE who now = 9 := by unfold PS.canE; rw [if_neg (by rw [h]; decide), if_neg (by rw [hw]; decide)]
theorem canE_ok {s : PS} {who : Int} {now : Nat} (h : s.may (decide (0 ≤ who ∧ who ≤ 1000)) now = 0) (hw : s.waits who = true) : s.canE who now = 0 := by unfold PS.canE; rw [if_neg (by rw [h]; decide), if_pos hw]
theorem cancel_no {s : PS} {who : Int} {now : Nat} (h : s.canE who now ≠ 0) : s.cancel who now = s := by unfold PS.cancel; rw [if_pos h]
theorem cancel_ok {s : PS} {who : Int} {now : Nat} (h : s.canE who now = 0) : s.cancel who now = (s.at_ now).leave who := by unfold PS.cancel; rw [if_neg (by rw [h]; decide)]
theorem getE_may {s : PS} {who : Int} {now dl : Nat} (h : s.may (decide (0 ≤ who ∧ who ≤ 1000)) now ≠ 0) : getE_ s who now dl = s.may (decide (0 ≤ who ∧ who ≤ 1000)) now := by unfold getE_; rw [if_pos h]
theorem getE_late {s : PS} {who : Int} {now dl : Nat} (h : s.may (decide (0 ≤ who ∧ who ≤ 1000)) now = 0) (hd : dl ≤ now) : getE_ s who now dl = 3 := by unfold getE_; rw [if_neg (by rw [h]; decide), if_pos hd]
theorem getE_busy {s : PS} {who : Int} {now dl : Nat} (h : s.may (decide (0 ≤ who ∧ who ≤ 1000)) now = 0) (hd : ¬ dl ≤ now) (hb : s.waits who = true ∨ s.dials who = true) : getE_ s who now dl = 11 := by
  unfold getE_; rw [if_neg (by rw [h]; decide), if_neg hd, if_pos (by rcases hb with e | e <;> rw [e] <;> simp)]
theorem getE_ok {s : PS} {who : Int} {now dl : Nat} (h : s.may (decide (0 ≤ who ∧ who ≤ 1000)) now = 0) (hd : ¬ dl ≤ now) (h1 : s.waits who = false) (h2 : s.dials who = false) : getE_ s who now dl = 0 := by
  unfold getE_; rw [if_neg (by rw [h]; decide), if_neg hd, if_neg (by rw [h1, h2]; decide)]
theorem get_err {s : PS} {who : Int} {now dl : Nat} (h : getE_ s who now dl ≠ 0) : s.getS who now dl = s ∧ s.getV who now dl = ⟨0, 0, 0⟩ := by unfold PS.getS PS.getV; rw [if_pos h, if_pos h]; exact ⟨rfl, rfl⟩
theorem get_use {s : PS} {who : Int} {now dl : Nat} (h : getE_ s who now dl = 0) (hi : allI 3 s.C ≠ []) : s.getS who now dl = (s.at_ now).set s.last.toNat ⟨2, 0, 0⟩ ∧ s.getV who now dl = ⟨1, who, s.last⟩ := by
  constructor
  · unfold PS.getS; rw [if_neg (by rw [h]; decide), if_pos hi]
  · unfold PS.getV; rw [if_neg (by rw [h]; decide), if_pos hi]
theorem get_dial {s : PS} {who : Int} {now dl : Nat} (h : getE_ s who now dl = 0) (hi : allI 3 s.C = []) (hr : s.room = true) : s.getS who now dl = (s.at_ now).dial who ∧ s.getV who now dl = ⟨2, who, (s.free : Int)⟩ := by
  constructor
  · unfold PS.getS; rw [if_neg (by rw [h]; decide), if_neg (by rw [hi]; simp), if_pos hr]
  · unfold PS.getV; rw [if_neg (by rw [h]; decide), if_neg (by rw [hi]; simp), if_pos hr]
theorem get_wait {s : PS} {who : Int} {now dl : Nat} (h : getE_ s who now dl = 0) (hi : allI 3 s.C = []) (hr : s.room = false) : s.getS who now dl = { s with now := now, Q := s.Q ++ [⟨s.n + 1, who, dl⟩], n := s.n + 1 } ∧ s.getV who now dl = ⟨3, who, -1⟩ := by
  constructor
  · unfold PS.getS; rw [if_neg (by rw [h]; decide), if_neg (by rw [hi]; simp), if_neg (by rw [hr]; decide)]
  · unfold PS.getV; rw [if_neg (by rw [h]; decide), if_neg (by rw [hi]; simp), if_neg (by rw [hr]; decide)]
theorem last_mem {s : PS} (h : allI 3 s.C ≠ []) : ∃ (k : Nat) (x : Cn), s.last = (k : Int) ∧ s.C[s.last.toNat]? = some x ∧ k < s.C.length ∧ x.st = 3 := by
  obtain ⟨k, x, h1, h2, h3⟩ := allI_mem (sel_mem (fun a b => decide (0 < idleC s.C a b)) h)
  exact ⟨k, x, h1, by rw [show s.last = (k : Int) from h1, Int.toNat_natCast]; exact h2, (List.getElem?_eq_some_iff.1 h2).1, h3⟩
theorem may_arg {s : PS} {right : Bool} {now : Nat} (h : right = false) : s.may right now = 2 := by unfold PS.may; rw [if_pos h]
theorem may_time {s : PS} {right : Bool} {now : Nat} (h : right = true) (h2 : now < s.now ∨ now = 18446744073709551615) : s.may right now = 3 := by unfold PS.may; rw [if_neg (by rw [h]; decide), if_pos h2]
theorem may_fine {s : PS} {right : Bool} {now : Nat} (h : right = true) (h2 : ¬ (now < s.now ∨ now = 18446744073709551615)) : s.may right now = 0 := by unfold PS.may; rw [if_neg (by rw [h]; decide), if_neg h2]
structure AllW where
  i : Nat
  l : List Int
  ob : Option Nat
  c : Nat
  tl : List Value
/-- A pool in memory. -/
structure PM where
  p : Nat
  q : Nat
  qm : Nat
  qes : Array MapEntry
  qmc : Nat
  wm : Nat
  wes : Array MapEntry
  wmc : Nat
  eb : Option Nat
  ek : Nat
  ec : Nat
  epre : List Value
  etl : List Value

end Go.Proofs.Yteofigbgdbpjgaa
