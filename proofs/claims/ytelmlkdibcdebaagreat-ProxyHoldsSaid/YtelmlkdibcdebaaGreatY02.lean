/-
 Chapter 49 (proxy), part BalP: contracts of functions that the laws call, each for the heap it names.
-/
import Derived.Test.YtelmlkdibcdebaaGreatY01
import Derived.Test.YtelmlkdibcdebaaGreatRows
set_option linter.unusedVariables false
set_option maxRecDepth 20000
set_option maxHeartbeats 4000000
namespace Go.Proofs.YtelmlkdibcdebaaGreat
structure Cn where
 st : Int
 who : Int
 since : Nat
abbrev encC (x : Cn) : List Value := [.int .i64 x.st, .int .i64 x.who, .int .u64 (x.since : Int)]
theorem encC3 (x : Cn) : (encC x).length = 3 := rfl
structure Qp where
 t : Nat
 who : Int
 dl : Nat
structure Pv where
 k : Int
 who : Int
 c : Int
abbrev encV (x : Pv) : List Value := [.int .i64 x.k, .int .i64 x.who, .int .i64 x.c]
abbrev pvV (x : Pv) : Value := .agg #[.int .i64 x.k, .int .i64 x.who, .int .i64 x.c]
theorem encV3 (x : Pv) : (encV x).length = 3 := rfl
structure PS where
 op : Nat
 most : Nat
 keep : Nat
 now : Nat
 C : List Cn
 Q : List Qp
 n : Nat
 E : List Pv
abbrev fq (Q : List Qp) : List (Nat × Int) := Q.map fun x => (x.t, x.who)
abbrev wq (Q : List Qp) : List (Int × (Nat × Nat)) := Q.map fun x => (x.who, (x.t, x.dl))
abbrev ekW (k : Int) : Value := .int .i64 k
abbrev evW (x : Nat × Nat) : Value := .agg #[.int .u64 (x.1 : Int), .int .u64 (x.2 : Int)]
def allF (s : Int) : Nat → List Cn → List Int
 | _, [] => []
 | k, x :: r => if x.st = s then (k : Int) :: allF s (k + 1) r else allF s (k + 1) r
abbrev allI (s : Int) (C : List Cn) : List Int := allF s 0 C
theorem allF_app (s : Int) : ∀ (A B : List Cn) (k : Nat), allF s k (A ++ B) = allF s k A ++ allF s (k + A.length) B
 | [], B, k => by simp [allF]
 | x :: A, B, k => by
  have ih := allF_app s A B (k + 1)
  rw [List.cons_append, allF, allF, ih, List.length_cons, show k + (A.length + 1) = k + 1 + A.length from by omega]
  split <;> simp
theorem allI_next {s : Int} {C : List Cn} {i : Nat} {x : Cn} (h : C[i]? = some x) : allI s (C.take (i + 1)) = allI s (C.take i) ++ (if x.st = s then [(i : Int)] else []) := by
 have hl := (List.getElem?_eq_some_iff.1 h).1
 rw [take_next h, allI, allF_app, List.length_take]
 congr 1
 rw [Nat.min_eq_left (by omega), Nat.zero_add]
 unfold allF allF
 rfl
theorem allF_len (s : Int) : ∀ (C : List Cn) (k : Nat), (allF s k C).length ≤ C.length
 | [], _ => Nat.le_refl _
 | x :: r, k => by
  have := allF_len s r (k + 1)
  unfold allF
  split <;> simp only [List.length_cons] <;> omega
theorem allF_mem {s : Int} : ∀ {C : List Cn} {k : Nat} {a : Int}, a ∈ allF s k C → ∃ (i : Nat) (x : Cn), a = ((k + i : Nat) : Int) ∧ C[i]? = some x ∧ x.st = s
 | [], _, _, h => by simp [allF] at h
 | x :: r, k, a, h => by
  have rec2 : a ∈ allF s (k + 1) r → ∃ (i : Nat) (y : Cn), a = ((k + i : Nat) : Int) ∧ (x :: r)[i]? = some y ∧ y.st = s := fun h2 => by
   obtain ⟨i, y, h3, h4, h5⟩ := allF_mem h2
   exact ⟨i + 1, y, by rw [h3]; omega, by simpa using h4, h5⟩
  unfold allF at h
  split at h
  ·rename_i hx
   rcases List.mem_cons.1 h with rfl | h2
   ·exact ⟨0, x, rfl, rfl, hx⟩
   ·exact rec2 h2
  ·exact rec2 h
theorem allF_in {s : Int} : ∀ {C : List Cn} {k i : Nat} {x : Cn}, C[i]? = some x → x.st = s → ((k + i : Nat) : Int) ∈ allF s k C
 | [], _, _, _, h, _ => by simp at h
 | y :: r, k, 0, x, h, hx => by
  simp at h; subst h
  unfold allF; rw [if_pos hx]; exact List.mem_cons_self ..
 | y :: r, k, i + 1, x, h, hx => by
  have ih := allF_in (k := k + 1) (i := i) (x := x) (C := r) (by simpa using h) hx
  rw [show k + 1 + i = k + (i + 1) from by omega] at ih
  unfold allF
  split
  ·exact List.mem_cons_of_mem _ ih
  ·exact ih
theorem allI_mem {s : Int} {C : List Cn} {a : Int} (h : a ∈ allI s C) : ∃ (i : Nat) (x : Cn), a = (i : Int) ∧ C[i]? = some x ∧ x.st = s := by
 obtain ⟨i, x, h1, h2, h3⟩ := allF_mem h
 exact ⟨i, x, by rw [h1, Nat.zero_add], h2, h3⟩
theorem allI_in {s : Int} {C : List Cn} {i : Nat} {x : Cn} (h : C[i]? = some x) (hx : x.st = s) : (i : Int) ∈ allI s C := by
 have := allF_in (k := 0) h hx
 rwa [Nat.zero_add] at this
theorem allI_len (s : Int) (C : List Cn) : (allI s C).length ≤ C.length := allF_len s C 0
def PS.used (s : PS) : Nat := 64 - (allI 0 s.C).length
def PS.room (s : PS) : Bool := decide (s.used < s.op)
def PS.free (s : PS) : Nat := match allI 0 s.C with
 | [] => 0
 | a :: _ => a.toNat
def PS.set (s : PS) (i : Nat) (x : Cn) : PS := { s with C := s.C.set i x }
def PS.tell (s : PS) (k who c : Int) : PS := { s with E := s.E ++ [⟨k, who, c⟩] }
def PS.pop (s : PS) : PS := { s with Q := s.Q.drop 1 }
def PS.dial (s : PS) (who : Int) : PS := s.set s.free ⟨1, who, 0⟩
def PS.at_ (s : PS) (now : Nat) : PS := { s with now := now }
def PS.next (s : PS) : PS := match s.Q with
 | [] => s
 | x :: _ => if s.room = true then ((s.pop.dial x.who).tell 2 x.who (s.free : Int)) else s
def PS.lose (s : PS) (c : Nat) : PS := (s.set c ⟨0, 0, 0⟩).next
def PS.may (s : PS) (right : Bool) (now : Nat) : Int := if right = false then 2 else if now < s.now ∨ now = 18446744073709551615 then 3 else 0
def PS.waits (s : PS) (who : Int) : Bool := s.Q.any fun x => decide (x.who = who)
def PS.dials (s : PS) (who : Int) : Bool := s.C.any fun x => decide (x.st = 1 ∧ x.who = who)
def sinceI (C : List Cn) (a : Int) : Nat := match C[a.toNat]? with
 | some x => x.since
 | none => 0
def lexI (x y a b : Int) : Int := orL [cmpI x y, cmpI a b]
def idleC (C : List Cn) (a b : Int) : Int := lexI (sinceI C a) (sinceI C b) a b
abbrev PS.last (s : PS) : Int := sel (fun a b => decide (0 < idleC s.C a b)) (allI 3 s.C)
def getE_ (s : PS) (who : Int) (now dl : Nat) : Int :=
 if s.may (decide (0 ≤ who ∧ who ≤ 1000)) now ≠ 0 then s.may (decide (0 ≤ who ∧ who ≤ 1000)) now
 else if dl ≤ now then 3 else if s.waits who || s.dials who then 11 else 0
def PS.getS (s : PS) (who : Int) (now dl : Nat) : PS :=
 if getE_ s who now dl ≠ 0 then s
 else if allI 3 s.C ≠ [] then (s.at_ now).set s.last.toNat ⟨2, 0, 0⟩
 else if s.room = true then (s.at_ now).dial who
 else { s with now := now, Q := s.Q ++ [⟨s.n + 1, who, dl⟩], n := s.n + 1 }
def PS.getV (s : PS) (who : Int) (now dl : Nat) : Pv :=
 if getE_ s who now dl ≠ 0 then ⟨0, 0, 0⟩
 else if allI 3 s.C ≠ [] then ⟨1, who, s.last⟩
 else if s.room = true then ⟨2, who, (s.free : Int)⟩
 else ⟨3, who, -1⟩
def PS.inE (s : PS) (c st : Int) (now : Nat) : Int :=
 if s.may (decide (0 ≤ c)) now ≠ 0 then s.may (decide (0 ≤ c)) now
 else if 64 ≤ c ∨ (s.C[c.toNat]?.map (·.st)) ≠ some st then 9 else 0
def PS.dialed (s : PS) (c : Int) (made : Bool) (now : Nat) : PS :=
 if s.inE c 1 now ≠ 0 then s else if made = true then (s.at_ now).set c.toNat ⟨2, 0, 0⟩ else (s.at_ now).lose c.toNat
def PS.put (s : PS) (c : Int) (good : Bool) (now : Nat) : PS :=
 if s.inE c 2 now ≠ 0 then s
 else match good, s.Q with
  | true, x :: _ => ((s.at_ now).pop).tell 1 x.who c
  | true, [] => if (allI 3 s.C).length < s.most then (s.at_ now).set c.toNat ⟨3, 0, now⟩ else ((s.at_ now).tell 5 (-1) c).lose c.toNat
  | false, _ => ((s.at_ now).tell 5 (-1) c).lose c.toNat
def PS.leave (s : PS) (who : Int) : PS := { s with Q := s.Q.filter fun x => decide (x.who ≠ who) }
def PS.nx (s : PS) : PS := { s with E := s.E.drop 1 }
def PS.new (op most keep : Nat) : PS := ⟨op, most, keep, 0, List.replicate 64 ⟨0, 0, 0⟩, [], 0, []⟩
theorem PS.free_of {s : PS} (h : allI 0 s.C ≠ []) : (allI 0 s.C)[0]? = some (s.free : Int) ∧ s.free < s.C.length ∧ ∃ x, s.C[s.free]? = some x ∧ x.st = 0 := by
 cases e : allI 0 s.C with
 | nil => exact absurd e h
 | cons a r =>
  obtain ⟨i, x, h1, h2, h3⟩ := allI_mem (s := 0) (C := s.C) (a := a) (by rw [e]; exact List.mem_cons_self ..)
  have hf : s.free = i := by unfold PS.free; rw [e]; show a.toNat = i; omega
  rw [hf]
  exact ⟨by rw [h1]; rfl, (List.getElem?_eq_some_iff.1 h2).1, x, h2, h3⟩
theorem PS.room_ne {s : PS} (h : s.room = true) (hc : s.C.length = 64) (ho : s.op ≤ 64) : allI 0 s.C ≠ [] := fun e => by
 unfold PS.room PS.used at h
 rw [e] at h
 have := of_decide_eq_true h
 simp at this; omega
theorem inE_may {s : PS} {c st : Int} {now : Nat} (h : s.may (decide (0 ≤ c)) now ≠ 0) : s.inE c st now = s.may (decide (0 ≤ c)) now := by unfold PS.inE; rw [if_pos h]
theorem inE_none {s : PS} {c st : Int} {now : Nat} (h : s.may (decide (0 ≤ c)) now = 0) (h2 : 64 ≤ c ∨ (s.C[c.toNat]?.map (·.st)) ≠ some st) : s.inE c st now = 9 := by unfold PS.inE; rw [if_neg (by rw [h]; decide), if_pos h2]
theorem inE_ok {s : PS} {c st : Int} {now : Nat} (h : s.may (decide (0 ≤ c)) now = 0) (h2 : ¬ (64 ≤ c ∨ (s.C[c.toNat]?.map (·.st)) ≠ some st)) : s.inE c st now = 0 := by unfold PS.inE; rw [if_neg (by rw [h]; decide), if_neg h2]
theorem may_zero {s : PS} {right : Bool} {now : Nat} (h : s.may right now = 0) : right = true ∧ s.now ≤ now ∧ now ≠ 18446744073709551615 := by
 unfold PS.may at h
 split at h
 ·cases h
 ·rename_i hr
  split at h
  ·cases h
  ·rename_i h2
   exact ⟨by simpa using hr, by omega, by omega⟩
theorem inE_zero {s : PS} {c st : Int} {now : Nat} (h : s.inE c st now = 0) : ∃ (k : Nat) (x : Cn), c = (k : Int) ∧ k < 64 ∧ s.C[k]? = some x ∧ x.st = st ∧ s.now ≤ now ∧ now ≠ 18446744073709551615 := by
 unfold PS.inE at h
 split at h
 ·rename_i h1; exact absurd h h1
 ·rename_i h1
  have h1' : s.may (decide (0 ≤ c)) now = 0 := Decidable.byContradiction h1
  obtain ⟨h2, h3, h4⟩ := may_zero h1'
  split at h
  ·cases h
  ·rename_i h5
   have h0 : 0 ≤ c := of_decide_eq_true h2
   have h6 : s.C[c.toNat]?.map (·.st) = some st := Decidable.byContradiction fun e => h5 (.inr e)
   cases hx : s.C[c.toNat]? with
   | none => rw [hx] at h6; cases h6
   | some x =>
    rw [hx] at h6
    exact ⟨c.toNat, x, by omega, by omega, hx, Option.some.inj h6, h3, h4⟩
theorem dialed_no {s : PS} {c : Int} {made : Bool} {now : Nat} (h : s.inE c 1 now ≠ 0) : s.dialed c made now = s := by unfold PS.dialed; rw [if_pos h]
theorem dialed_made {s : PS} {k now : Nat} (h : s.inE (k : Int) 1 now = 0) : s.dialed (k : Int) true now = (s.at_ now).set k ⟨2, 0, 0⟩ := by unfold PS.dialed; rw [if_neg (by rw [h]; decide), if_pos rfl, Int.toNat_natCast]
theorem dialed_lost {s : PS} {k now : Nat} (h : s.inE (k : Int) 1 now = 0) : s.dialed (k : Int) false now = (s.at_ now).lose k := by unfold PS.dialed; rw [if_neg (by rw [h]; decide), if_neg (by decide), Int.toNat_natCast]
theorem put_no {s : PS} {c : Int} {good : Bool} {now : Nat} (h : s.inE c 2 now ≠ 0) : s.put c good now = s := by unfold PS.put; rw [if_pos h]
theorem put_use {s : PS} {k now : Nat} {x : Qp} {r : List Qp} (h : s.inE (k : Int) 2 now = 0) (hQ : s.Q = x :: r) : s.put (k : Int) true now = ((s.at_ now).pop).tell 1 x.who (k : Int) := by unfold PS.put; rw [if_neg (by rw [h]; decide), hQ]
theorem put_idle {s : PS} {k now : Nat} (h : s.inE (k : Int) 2 now = 0) (hQ : s.Q = []) (hl : (allI 3 s.C).length < s.most) : s.put (k : Int) true now = (s.at_ now).set k ⟨3, 0, now⟩ := by unfold PS.put; rw [if_neg (by rw [h]; decide), hQ]; dsimp only; rw [if_pos hl, Int.toNat_natCast]
theorem put_over {s : PS} {k now : Nat} (h : s.inE (k : Int) 2 now = 0) (hQ : s.Q = []) (hl : ¬ (allI 3 s.C).length < s.most) : s.put (k : Int) true now = ((s.at_ now).tell 5 (-1) (k : Int)).lose k := by unfold PS.put; rw [if_neg (by rw [h]; decide), hQ]; dsimp only; rw [if_neg hl, Int.toNat_natCast]
theorem put_bad {s : PS} {k now : Nat} (h : s.inE (k : Int) 2 now = 0) : s.put (k : Int) false now = ((s.at_ now).tell 5 (-1) (k : Int)).lose k := by unfold PS.put; rw [if_neg (by rw [h]; decide)]; dsimp only; rw [Int.toNat_natCast]
theorem leave_eq {s : PS} {A B : List Qp} {x : Qp} (hQ : s.Q = A ++ x :: B) (hn : (s.Q.map (·.who)).Nodup) : s.leave x.who = { s with Q := A ++ B } := by
 rw [hQ] at hn
 have hx : ∀ y ∈ A ++ B, y.who ≠ x.who := fun y hy e => by
  have h1 := ((List.perm_middle (l₁ := A) (a := x) (l₂ := B)).map (fun y : Qp => y.who)).nodup_iff.1 hn
  rw [List.map_cons, List.nodup_cons] at h1
  exact h1.1 (by rw [← e]; exact List.mem_map_of_mem hy)
 unfold PS.leave
 rw [hQ, List.filter_append, List.filter_cons_of_neg (by simp), ← List.filter_append, List.filter_eq_self.2 fun y hy => decide_eq_true (hx y hy)]
theorem waits_or (s : PS) (who : Int) : (∃ A x B, s.Q = A ++ x :: B ∧ x.who = who) ∨ (s.waits who = false ∧ who ∉ (wq s.Q).map (·.1)) := by
 cases e : s.waits who with
 | true =>
  unfold PS.waits at e
  obtain ⟨x, hx, hw⟩ := List.any_eq_true.1 e
  obtain ⟨A, B, hAB⟩ := List.append_of_mem hx
  exact .inl ⟨A, x, B, hAB, of_decide_eq_true hw⟩
 | false =>
  refine .inr ⟨rfl, fun hm => ?_⟩
  rw [List.map_map] at hm
  obtain ⟨x, hx, hw⟩ := List.mem_map.1 hm
  unfold PS.waits at e
  have := List.any_eq_false.1 e x hx
  simp only [decide_eq_true_eq] at this
  exact this hw
theorem waits_in {s : PS} {A B : List Qp} {x : Qp} (hQ : s.Q = A ++ x :: B) : s.waits x.who = true := by
 unfold PS.waits; rw [hQ]; exact List.any_eq_true.2 ⟨x, List.mem_append_right _ (List.mem_cons_self ..), decide_eq_true rfl⟩
theorem getE_may {s : PS} {who : Int} {now dl : Nat} (h : s.may (decide (0 ≤ who ∧ who ≤ 1000)) now ≠ 0) : getE_ s who now dl = s.may (decide (0 ≤ who ∧ who ≤ 1000)) now := by unfold getE_; rw [if_pos h]
theorem getE_late {s : PS} {who : Int} {now dl : Nat} (h : s.may (decide (0 ≤ who ∧ who ≤ 1000)) now = 0) (hd : dl ≤ now) : getE_ s who now dl = 3 := by unfold getE_; rw [if_neg (by rw [h]; decide), if_pos hd]
theorem getE_busy {s : PS} {who : Int} {now dl : Nat} (h : s.may (decide (0 ≤ who ∧ who ≤ 1000)) now = 0) (hd : ¬ dl ≤ now) (hb : s.waits who = true ∨ s.dials who = true) : getE_ s who now dl = 11 := by
 unfold getE_; rw [if_neg (by rw [h]; decide), if_neg hd, if_pos (by rcases hb with e | e <;> rw [e] <;> simp)]
theorem getE_ok {s : PS} {who : Int} {now dl : Nat} (h : s.may (decide (0 ≤ who ∧ who ≤ 1000)) now = 0) (hd : ¬ dl ≤ now) (h1 : s.waits who = false) (h2 : s.dials who = false) : getE_ s who now dl = 0 := by
 unfold getE_; rw [if_neg (by rw [h]; decide), if_neg hd, if_neg (by rw [h1, h2]; decide)]
theorem get_err {s : PS} {who : Int} {now dl : Nat} (h : getE_ s who now dl ≠ 0) : s.getS who now dl = s ∧ s.getV who now dl = ⟨0, 0, 0⟩ := by unfold PS.getS PS.getV; rw [if_pos h, if_pos h]; exact ⟨rfl, rfl⟩
theorem get_use {s : PS} {who : Int} {now dl : Nat} (h : getE_ s who now dl = 0) (hi : allI 3 s.C ≠ []) : s.getS who now dl = (s.at_ now).set s.last.toNat ⟨2, 0, 0⟩ ∧ s.getV who now dl = ⟨1, who, s.last⟩ := by
 constructor
 ·unfold PS.getS; rw [if_neg (by rw [h]; decide), if_pos hi]
 ·unfold PS.getV; rw [if_neg (by rw [h]; decide), if_pos hi]
theorem get_dial {s : PS} {who : Int} {now dl : Nat} (h : getE_ s who now dl = 0) (hi : allI 3 s.C = []) (hr : s.room = true) : s.getS who now dl = (s.at_ now).dial who ∧ s.getV who now dl = ⟨2, who, (s.free : Int)⟩ := by
 constructor
 ·unfold PS.getS; rw [if_neg (by rw [h]; decide), if_neg (by rw [hi]; simp), if_pos hr]
 ·unfold PS.getV; rw [if_neg (by rw [h]; decide), if_neg (by rw [hi]; simp), if_pos hr]
theorem get_wait {s : PS} {who : Int} {now dl : Nat} (h : getE_ s who now dl = 0) (hi : allI 3 s.C = []) (hr : s.room = false) : s.getS who now dl = { s with now := now, Q := s.Q ++ [⟨s.n + 1, who, dl⟩], n := s.n + 1 } ∧ s.getV who now dl = ⟨3, who, -1⟩ := by
 constructor
 ·unfold PS.getS; rw [if_neg (by rw [h]; decide), if_neg (by rw [hi]; simp), if_neg (by rw [hr]; decide)]
 ·unfold PS.getV; rw [if_neg (by rw [h]; decide), if_neg (by rw [hi]; simp), if_neg (by rw [hr]; decide)]
theorem last_mem {s : PS} (h : allI 3 s.C ≠ []) : ∃ (k : Nat) (x : Cn), s.last = (k : Int) ∧ s.C[s.last.toNat]? = some x ∧ k < s.C.length ∧ x.st = 3 := by
 obtain ⟨k, x, h1, h2, h3⟩ := allI_mem (sel_mem (fun a b => decide (0 < idleC s.C a b)) h)
 exact ⟨k, x, h1, by rw [show s.last = (k : Int) from h1, Int.toNat_natCast]; exact h2, (List.getElem?_eq_some_iff.1 h2).1, h3⟩
theorem may_arg {s : PS} {right : Bool} {now : Nat} (h : right = false) : s.may right now = 2 := by unfold PS.may; rw [if_pos h]
theorem may_time {s : PS} {right : Bool} {now : Nat} (h : right = true) (h2 : now < s.now ∨ now = 18446744073709551615) : s.may right now = 3 := by unfold PS.may; rw [if_neg (by rw [h]; decide), if_pos h2]
theorem may_fine {s : PS} {right : Bool} {now : Nat} (h : right = true) (h2 : ¬ (now < s.now ∨ now = 18446744073709551615)) : s.may right now = 0 := by unfold PS.may; rw [if_neg (by rw [h]; decide), if_neg h2]
structure AllW where
 i : Nat
 l : List Int
 ob : Option Nat
 c : Nat
 tl : List Value
structure PM where
 p : Nat
 q : Nat
 qm : Nat
 qes : Array MapEntry
 qmc : Nat
 wm : Nat
 wes : Array MapEntry
 wmc : Nat
 eb : Option Nat
 ek : Nat
 ec : Nat
 epre : List Value
 etl : List Value
abbrev ptrQ (p : Nat) : Value := .pointer (some ⟨p, 0, none⟩)
abbrev qR (p mb f la n : Nat) (es : Array MapEntry) (mc : Nat) : Heap := [⟨some p, cl [.int .u64 (f : Int), .int .u64 (la : Int), .int .u64 (n : Int), .map (some mb)] 194⟩, ⟨some mb, .map es mc⟩]
abbrev qH (p mb : Nat) (l : List (Nat × Int)) (n : Nat) (es : Array MapEntry) (mc : Nat) : Heap := qR p mb (hd 0 l) (lst 0 l) n es mc
theorem qnew_ok : Spec Tryz.prog 59 [] [] (fun r H' => ∃ p mb, r = ptrQ p ∧ H' = qH p mb [] 0 #[] 0) := by
 refine Spec.of (E := []) Tryz.func59 rfl (by kernel_rfl) Tryz.ntmps59 rfl rfl (fun w => ?_)
 refine WCr (WLa Z (WL_nil (WQ_code (WCr (WLd Z (D_makeMap Z) ?_)))))
 rintro _ _ ⟨mb, rfl, rfl⟩
 refine WLv Z (R_build Z zv194 pl194 Z Z) ?_
 refine WLd Z (D_box (cs := [_, _, _, _]) Z Z Z) ?_
 rintro _ _ ⟨b1, rfl, rfl⟩
 refine WLa Z (WL_nil (WQ_code (WC_ret ?_)))
 refine WQ1 Z (by
   exact ⟨_, mb, rfl, rfl⟩) pqZ
theorem mp_new : Mp (.int .u64) ekQ evQ #[] (nds 0 0 []) := Mp.empty ekQ_key ekQ_inj
theorem qzero_ok (p mb f la n : Nat) (es : Array MapEntry) (mc : Nat) : Spec Tryz.prog 126 [ptrQ p] (qR p mb f la n es mc) (fun r H' => r = .bool false ∧ H' = qR p mb f la n es mc) := by
 refine Spec.of (E := [(0, ptrQ p)]) Tryz.func126 rfl (by kernel_rfl) Tryz.ntmps126 rfl rfl (fun w => ?_)
 refine WCr (WLa Z (WL_nil (WQ_code (WCr (WLa Z (WLv Z (R_ptrEqNil Z Tryz.underlying127 Z) ?_))))))
 refine WLa Z (WLa Z (WLa Z (WLf Z fa194_1 (WLl Z sc190 mmZ Z (WLv Z (R_mapEqNil Z Tryz.underlying190 Z) ?_)))))
 refine WL_set (s := 10) (v := .bool false) Z (by rfl) ?_
 refine WLa Z (WLa Z (WL_nil (WQ_code (WC_ret ?_))))
 refine WQ1 Z (by
   exact ⟨rfl, rfl⟩) pqZ
theorem qpush_raw (p mb : Nat) (l : List (Nat × Int)) (n : Nat) (es : Array MapEntry) (mc : Nat) (hq : Qk l n) (hM : Mp (.int .u64) ekQ evQ es (nds 0 0 l)) (hl : l.length < 4096) (hn : n < 1000000000000) (v : Int) : Spec Tryz.prog 122 [ptrQ p, .int .i64 v] (qH p mb l n es mc)
  (fun r H' => ∃ es' mc' f la, r = .tuple #[.int .u64 ((n + 1 : Nat) : Int), .int .i64 0] ∧ H' = qR p mb f la (n + 1) es' mc' ∧ f = hd 0 (l ++ [(n + 1, v)]) ∧ la = lst 0 (l ++ [(n + 1, v)]) ∧ Mp (.int .u64) ekQ evQ es' (nds 0 0 (l ++ [(n + 1, v)]))) := by
 refine Spec.of (E := [(0, ptrQ p), (1, .int .i64 v)]) Tryz.func122 rfl (by kernel_rfl) Tryz.ntmps122 rfl rfl (fun w => ?_)
 refine WCr (WLa Z (WLa Z (WL_nil (WQ_code (WC_seq (WC_block (WCr (WLa Z (WLq Z (qzero_ok p mb _ _ _ es mc) Z pqZ ?_)))))))))
 refine WLa Z (WL_nil (WQ_code (WC_F Z (WCr (WLa Z (WLa Z (WLf Z fa194_1 (WLl Z sc190 mmZ Z (WLv Z (R_lenMap Z Tryz.underlying190 Z mmZ hM) ?_)))))))))
 refine WLa Z (WLa Z (WL_nil (WQ_code (WC_dF Z (by rw [nds_len]; omega) ?_))))
 refine WC_skip (WQ_code (WCr (WLa Z (WLa Z (WLf Z fa194_0 (WLf Z fa192_2 (WLl Z sc24 mmZ Z (WLv Z (R_addR (r := ((n + 1 : Nat) : Int)) Z Z Z (by rw [w64 ⟨by omega, by omega⟩]; omega)) ?_))))))))
 refine WLa Z (WLf Z fa194_0 (WLf Z fa192_2 (WLs (vs := [_]) Z Tryz.sizeOf24 Z Z plZ (nb Z) ?_)))
 refine WL_nil (WQ_code (WC_seq (WC_drawR [⟨some mb, _⟩] [(0, true), (1, true), (2, true), (3, true), (4, true), (5, true), (6, true), (7, true), (8, true), (9, true), (10, true), (11, true), (12, true), (13, true), (14, true), (15, true), (16, false)] followsMixed Z Z (by kernel_rfl) pqZ ?_)))
 refine WMa Z (WMa Z (WMf Z fa194_1 (WMl Z sc190 mmZ Z (WMa Z (WMa Z (WMf Z fa194_0 (WMf Z fa192_2 (WMl Z sc24 mmZ Z (WMa Z (WMa Z (WMa Z (WMf Z fa194_0 (WMf Z fa192_1 (WMl Z sc24 mmZ Z (WMv Z (R_build Z zv232 pl232 Z Z) ?_)))))))))))))))
 refine WM_do0 Z Z Z (D_mapAdd (ek := ekQ) (ev := evQ) (k := n + 1) (v := (⟨v, lst 0 l, 0⟩ : Nd)) Z Tryz.underlying190 Tryz.underlying24 Z Z Z plZ hM (hq.new)) ?_
 rintro _ _ ⟨es1, mc1, hM1, rfl⟩
 refine ⟨⟨_, pqZ⟩, ?_⟩
 refine WM_nil (WQ_code (WC_seq (WCr (WLa Z (WLa Z (WLf Z fa194_0 (WLf Z fa192_1 (WLl Z sc24 mmZ Z (WLa Z (WL_nil (WQ_code ?_)))))))))))
 refine WC_dec Z (fun c1 => ?_) (fun c1 => ?_)
 ·obtain rfl : l = [] := hq.lst0.1 (by omega)
  refine WC_region (WLa Z (WLa Z (WLa Z (WLf Z fa194_0 (WLf Z fa192_2 (WLl Z sc24 mmZ Z (WLa Z (WLf Z fa194_0 (WLf Z fa192_0 (WLs (vs := [_]) Z Tryz.sizeOf24 Z Z plZ (nb Z) ?_))))))))))
  refine WL_nil (WQ_code (WCr (WLa Z (WLa Z (WLa Z (WLf Z fa194_0 (WLf Z fa192_2 (WLl Z sc24 mmZ Z (WLa Z (WLf Z fa194_0 (WLf Z fa192_1 (WLs (vs := [_]) Z Tryz.sizeOf24 Z Z plZ (nb Z) ?_))))))))))))
  refine WL_nil (WQ_code (WCr (WLa Z (WLa Z (WLf Z fa194_0 (WLf Z fa192_2 (WLl Z sc24 mmZ Z (WLa Z (WLa Z (WL_nil (WQ_code (WC_ret ?_))))))))))))
  refine WQ2 Z (by
    exact ⟨_, mc1, n + 1, n + 1, rfl, rfl, rfl, rfl, hM1⟩) pqZ
 ·have hl0 : l ≠ [] := fun e => c1 (by rw [e]; rfl)
  obtain ⟨w9, bq, hin⟩ := lst_in 0 l 0 hl0
  refine WC_seq (WC_draw _ [(0, true), (1, true), (2, true), (3, true), (4, true), (5, true), (6, true), (7, true), (8, true), (9, true), (10, false), (11, false)] followsMixed Z Z (by kernel_rfl) .all ?_)
  refine WMa Z (WMa Z (WMf Z fa194_1 (WMl Z sc190 mmZ Z (WMa Z (WMa Z (WMf Z fa194_0 (WMf Z fa192_1 (WMl Z sc24 mmZ Z (WMv Z (R_look (ek := ekQ) (ev := evQ) (k := lst 0 l) (a := ⟨w9, bq, 0⟩) Z Tryz.underlying190 Tryz.underlying24 Z Z mmZ hM1 (List.mem_cons_of_mem _ hin)) ?_)))))))))
  refine WMd Z (D_alloc Z zv232) ?_
  rintro _ _ ⟨b1, rfl, rfl⟩
  refine ⟨⟨_, pqZ⟩, ?_⟩
  refine WM_do0 Z Z Z (D_store (vs := [_, _, _]) Z Tryz.sizeOf232 Z Z Z Z Z plZ (nb Z)) ?_
  rintro _ _ rfl
  refine ⟨⟨_, pqZ⟩, ?_⟩
  refine WM_nil (WQ_code (WCr (WLa Z (WLa Z (WLf Z fa194_0 (WLf Z fa192_2 (WLl Z sc24 mmZ Z (WLf Z fa232_2 (WLs (vs := [_]) Z Tryz.sizeOf24 Z Z plZ (nb Z) ?_)))))))))
  refine WL_nil (WQ_code (WC_drawR [⟨some mb, _⟩] [(0, true), (1, true), (2, true), (3, true), (4, true), (5, true), (6, true), (7, true), (8, true), (9, true), (10, false)] followsMixed Z Z (by kernel_rfl) pqZ ?_))
  refine WMa Z (WMa Z (WMf Z fa194_1 (WMl Z sc190 mmZ Z (WMa Z (WMa Z (WMf Z fa194_0 (WMf Z fa192_1 (WMl Z sc24 mmZ Z (WMv Z (R_loadA (vs := [_, _, _]) Z ag232 Z mmZ Z atZ) ?_)))))))))
  refine WM_do0 Z Z Z (D_mapSet (ek := ekQ) (ev := evQ) (k := lst 0 l) (a := ⟨w9, bq, 0⟩) (v := (⟨w9, bq, n + 1⟩ : Nd)) Z Tryz.underlying190 Tryz.underlying24 Z Z Z plZ hM1 (List.mem_cons_of_mem _ hin)) ?_
  rintro _ _ ⟨es2, mc2, hM2, rfl⟩
  refine ⟨⟨_, pqZ⟩, ?_⟩
  refine WM_nil (WQ_code (WCr (WLa Z (WLa Z (WLa Z (WLf Z fa194_0 (WLf Z fa192_2 (WLl Z sc24 mmZ Z (WLa Z (WLf Z fa194_0 (WLf Z fa192_1 (WLs (vs := [_]) Z Tryz.sizeOf24 Z Z plZ (nb Z) ?_))))))))))))
  refine WL_nil (WQ_code (WCr (WLa Z (WLa Z (WLf Z fa194_0 (WLf Z fa192_2 (WLl Z sc24 mmZ Z (WLa Z (WLa Z (WL_nil (WQ_code (WC_ret ?_))))))))))))
  refine WQ2 Z (by
    exact ⟨_, mc2, hd 0 l, n + 1, rfl, rfl, by rw [hd_append]; exact hd_ne hl0, by rw [lst_append]; try rfl, hM2.to (push_list hq v hl0 hin)⟩) pqZ
theorem qpush_ok (p mb : Nat) (l : List (Nat × Int)) (n : Nat) (es : Array MapEntry) (mc : Nat) (hq : Qk l n) (hM : Mp (.int .u64) ekQ evQ es (nds 0 0 l)) (hl : l.length < 4096) (hn : n < 1000000000000) (v : Int) : Spec Tryz.prog 122 [ptrQ p, .int .i64 v] (qH p mb l n es mc)
  (fun r H' => ∃ es' mc', r = .tuple #[.int .u64 ((n + 1 : Nat) : Int), .int .i64 0] ∧ H' = qH p mb (l ++ [(n + 1, v)]) (n + 1) es' mc' ∧ Mp (.int .u64) ekQ evQ es' (nds 0 0 (l ++ [(n + 1, v)]))) :=
 (qpush_raw p mb l n es mc hq hM hl hn v).mono fun r H' ⟨es', mc', f, la, h1, h2, h3, h4, h5⟩ => by subst h3; subst h4; exact ⟨es', mc', h1, h2, h5⟩
theorem qfront_ok (p mb t : Nat) (v : Int) (l : List (Nat × Int)) (n : Nat) (es : Array MapEntry) (mc : Nat) (hq : Qk ((t, v) :: l) n) (hM : Mp (.int .u64) ekQ evQ es (nds 0 0 ((t, v) :: l))) : Spec Tryz.prog 163 [ptrQ p] (qH p mb ((t, v) :: l) n es mc)
  (fun r H' => r = .tuple #[.int .i64 v, .int .u64 (t : Int), .int .i64 0] ∧ H' = qH p mb ((t, v) :: l) n es mc) := by
 have ht := (hq.pos _ (List.mem_cons_self ..)).1
 refine Spec.of (E := [(0, ptrQ p)]) Tryz.func163 rfl (by kernel_rfl) Tryz.ntmps163 rfl rfl (fun w => ?_)
 refine WCr (WLa Z (WLa Z (WLa Z (WL_nil (WQ_code (WC_seq (WC_block (WCr (WLa Z (WLq Z (qzero_ok p mb _ _ _ es mc) Z pqZ ?_))))))))))
 refine WLa Z (WL_nil (WQ_code (WC_F Z (WCr (WLa Z (WLa Z (WLf Z fa194_0 (WLf Z fa192_0 (WLl Z sc24 mmZ Z (WLa Z (WLa Z (WL_nil (WQ_code (WC_dF Z (by (show ¬ ((t : Int) = 0)); omega) ?_))))))))))))))
 refine WC_skip (WQ_code (WC_seq (WC_draw _ [(0, true), (1, true), (2, true), (3, true), (4, true), (5, true), (6, true), (7, true), (8, true), (9, true), (10, true), (11, true), (12, true), (13, true), (14, true), (15, true), (16, true), (17, true), (18, true)] followsMixed Z Z (by kernel_rfl) .all ?_)))
 refine WMa Z (WMa Z (WMf Z fa194_1 (WMl Z sc190 mmZ Z (WMa Z (WMa Z (WMf Z fa194_0 (WMf Z fa192_0 (WMl Z sc24 mmZ Z (WMv Z (R_look (ek := ekQ) (ev := evQ) (k := t) (a := ⟨v, 0, hd 0 l⟩) Z Tryz.underlying190 Tryz.underlying24 Z Z mmZ hM (List.mem_cons_self ..)) ?_)))))))))
 refine WMv Z (R_field Z Tryz.underlying232 Z Z sc3 Z Z) ?_
 refine WMa Z (WMa Z (WMf Z fa194_0 (WMf Z fa192_0 (WMl Z sc24 mmZ Z (WMa Z (WMa Z (WMa Z (WM_nil (WQ_code (WC_ret ?_))))))))))
 refine WQ_ret Z Z (.cons (.tmp Z) (.cons (.tmp Z) (.cons (.tmp Z) .nil))) Z (by
   exact ⟨rfl, rfl⟩) pqZ
theorem out_right {A B : List (Nat × Int)} {x : Nat × Int} {g : Nat} (h : Qk (A ++ x :: B) g) (hA : A ≠ []) : lst 0 A ∉ B.map (·.1) := fun hm => by
 have h1 := h.rem.nodup
 rw [List.map_append, List.nodup_append] at h1
 exact h1.2.2 _ (lst_mem A 0 hA) _ hm rfl
theorem out_left {A B : List (Nat × Int)} {x : Nat × Int} {g : Nat} (h : Qk (A ++ x :: B) g) (hB : B ≠ []) : hd 0 B ∉ A.map (·.1) := fun hm => by
 have h1 := h.rem.nodup
 rw [List.map_append, List.nodup_append] at h1
 obtain ⟨w2, nq, h2⟩ := hd_in 0 0 B hB
 exact h1.2.2 _ hm _ (by rw [← nds_keys 0 B 0]; exact List.mem_map.2 ⟨_, h2, rfl⟩) rfl
theorem qrem_raw (p mb : Nat) (A B : List (Nat × Int)) (t : Nat) (v : Int) (n : Nat) (es : Array MapEntry) (mc : Nat) (hq : Qk (A ++ (t, v) :: B) n) (hM : Mp (.int .u64) ekQ evQ es (nds 0 0 (A ++ (t, v) :: B))) : Spec Tryz.prog 133 [ptrQ p, .int .u64 (t : Int)] (qR p mb (hd t A) (lst t B) n es mc)
  (fun r H' => ∃ es' mc' f la, r = .tuple #[.int .i64 v, .int .i64 0] ∧ H' = qR p mb f la n es' mc' ∧ f = hd 0 (A ++ B) ∧ la = lst 0 (A ++ B) ∧ Mp (.int .u64) ekQ evQ es' (nds 0 (hd 0 B) A ++ nds (lst 0 A) 0 B)) := by
 have hin : (t, (⟨v, lst 0 A, hd 0 B⟩ : Nd)) ∈ nds 0 0 (A ++ (t, v) :: B) := by rw [nds_append]; exact List.mem_append_right _ (List.mem_cons_self ..)
 have hdel := delL_mid A B t v hq.nodup
 have hqA := hq.left
 have hqB := hq.right.tail
 have hnd := hq.rem.nodup
 refine Spec.of (E := [(0, ptrQ p), (1, .int .u64 (t : Int))]) Tryz.func133 rfl (by kernel_rfl) Tryz.ntmps133 rfl rfl (fun w => ?_)
 refine WCr (WLa Z (WLa Z (WL_nil (WQ_code (WC_seq (WCr (WLa Z (WLq Z (qzero_ok p mb _ _ _ es mc) Z pqZ ?_))))))))
 refine WL_nil (WQ_code (WC_F Z (WC_skip (WQ_code (WCr (WLa Z (WLa Z (WLf Z fa194_1 (WLl Z sc190 mmZ Z (WLa Z (WLv Z (R_lookT (ek := ekQ) (ev := evQ) (k := t) (a := ⟨v, lst 0 A, hd 0 B⟩) Z Tryz.underlying190 Tryz.underlying24 Z Z mmZ hM (hin)) ?_)))))))))))
 refine WLa Z (WLa Z (WLa Z (WLd Z (D_alloc Z zv232) ?_)))
 rintro _ _ ⟨b1, rfl, rfl⟩
 refine WLs (vs := [_, _, _]) Z Tryz.sizeOf232 Z Z plZ (nb Z) ?_
 refine WLa Z (WL_nil (WQ_code (WC_seq (WCr (WLa Z (WLa Z (WL_nil (WQ_code (WC_F Z (WC_skip (WQ_code (WCr (WLa Z (WLa Z (WLf Z fa194_1 (WLl Z sc190 mmZ Z (WLa Z (WL_do0 Z Z (D_delete (ek := ekQ) (ev := evQ) (k := t) (a := ⟨v, lst 0 A, hd 0 B⟩) Z Tryz.underlying190 Tryz.underlying24 Z Z plZ hM (hin)) ?_))))))))))))))))))
 rintro _ _ ⟨es1, mc1, hM1, rfl⟩
 rw [hdel] at hM1
 refine WL_nil (WQ_code (WC_seq (WCr (WLf Z fa232_1 (WLl Z sc24 mmZ Z (WLa Z (WL_nil (WQ_code ?_))))))))
 refine WC_dec Z (fun c1 => ?_) (fun c1 => ?_)
 ·have h9 : ((lst 0 A : Nat) : Int) = 0 := c1
  obtain rfl : A = [] := hqA.lst0.1 (by omega)
  refine WC_region (WLa Z (WLf Z fa232_2 (WLl Z sc24 mmZ Z (WLa Z (WLf Z fa194_0 (WLf Z fa192_0 (WLs (vs := [_]) Z Tryz.sizeOf24 Z Z plZ (nb Z) ?_)))))))
  refine WL_nil (WQ_code (WC_seq (WCr (WLf Z fa232_2 (WLl Z sc24 mmZ Z (WLa Z (WL_nil (WQ_code ?_))))))))
  refine WC_dec Z (fun c2 => ?_) (fun c2 => ?_)
  ·have h8 : ((hd 0 B : Nat) : Int) = 0 := c2
   obtain rfl : B = [] := hqB.hd0.1 (by omega)
   refine WC_region (WLa Z (WLf Z fa232_1 (WLl Z sc24 mmZ Z (WLa Z (WLf Z fa194_0 (WLf Z fa192_1 (WLs (vs := [_]) Z Tryz.sizeOf24 Z Z plZ (nb Z) ?_)))))))
   refine WL_nil (WQ_code (WCr (WLf Z fa232_0 (WLl Z sc3 mmZ Z (WLa Z (WLa Z (WL_nil (WQ_code (WC_ret ?_)))))))))
   refine WQ2 Z (by
     exact ⟨_, mc1, hd 0 [], lst 0 [], rfl, rfl, rfl, rfl, hM1⟩) pqZ
  ·have hB : B ≠ [] := fun e => c2 (by rw [e]; rfl)
   obtain ⟨w2, nq, hin2⟩ := hd_in 0 t B hB
   refine WC_seq (WC_draw _ [(0, true), (1, true), (2, true), (3, true), (4, true), (5, true), (6, true), (7, false), (8, false)] followsMixed Z Z (by kernel_rfl) .all ?_)
   refine WMa Z (WMa Z (WMf Z fa194_1 (WMl Z sc190 mmZ Z (WMf Z fa232_2 (WMl Z sc24 mmZ Z (WMv Z (R_look (ek := ekQ) (ev := evQ) (k := hd 0 B) (a := ⟨w2, t, nq⟩) Z Tryz.underlying190 Tryz.underlying24 Z Z mmZ hM1 (List.mem_append_right _ hin2)) ?_))))))
   refine WMd Z (D_alloc Z zv232) ?_
   rintro _ _ ⟨b2, rfl, rfl⟩
   refine ⟨⟨_, pqZ⟩, ?_⟩
   refine WM_do0 Z Z Z (D_store (vs := [_, _, _]) Z Tryz.sizeOf232 Z Z Z Z Z plZ (nb Z)) ?_
   rintro _ _ rfl
   refine ⟨⟨_, pqZ⟩, ?_⟩
   refine WM_nil (WQ_code (WCr (WLf Z fa232_1 (WLl Z sc24 mmZ Z (WLf Z fa232_1 (WLs (vs := [_]) Z Tryz.sizeOf24 Z Z plZ (nb Z) ?_))))))
   refine WL_nil (WQ_code (WC_drawR [⟨some mb, _⟩] [(0, true), (1, true), (2, true), (3, true), (4, true), (5, true), (6, true), (7, false)] followsMixed Z Z (by kernel_rfl) pqZ ?_))
   refine WMa Z (WMa Z (WMf Z fa194_1 (WMl Z sc190 mmZ Z (WMf Z fa232_2 (WMl Z sc24 mmZ Z (WMv Z (R_loadA (vs := [_, _, _]) Z ag232 Z mmZ Z atZ) ?_))))))
   refine WM_do0 Z Z Z (D_mapSet (ek := ekQ) (ev := evQ) (k := hd 0 B) (a := ⟨w2, t, nq⟩) (v := (⟨w2, lst 0 [], nq⟩ : Nd)) Z Tryz.underlying190 Tryz.underlying24 Z Z Z plZ hM1 (List.mem_append_right _ hin2)) ?_
   rintro _ _ ⟨es3, mc3, hM3, rfl⟩
   refine ⟨⟨_, pqZ⟩, ?_⟩
   rw [setL_append, setL_head t (lst 0 []) 0 B w2 nq hB hqB.nodup hin2, setL_out (by rw [nds_keys]; exact out_left hq hB)] at hM3
   refine WM_nil (WQ_code (WCr (WLf Z fa232_0 (WLl Z sc3 mmZ Z (WLa Z (WLa Z (WL_nil (WQ_code (WC_ret ?_)))))))))
   refine WQ2 Z (by
     exact ⟨_, mc3, hd 0 B, lst t B, rfl, rfl, rfl, (by rw [lst_append]; exact lst_ne hB), hM3⟩) pqZ
 ·have hA : A ≠ [] := fun e => c1 (by rw [e]; rfl)
  obtain ⟨w1, bq, hin1⟩ := lst_in t A 0 hA
  refine WC_seq (WC_draw _ [(0, true), (1, true), (2, true), (3, true), (4, true), (5, true), (6, true), (7, false), (8, false)] followsMixed Z Z (by kernel_rfl) .all ?_)
  refine WMa Z (WMa Z (WMf Z fa194_1 (WMl Z sc190 mmZ Z (WMf Z fa232_1 (WMl Z sc24 mmZ Z (WMv Z (R_look (ek := ekQ) (ev := evQ) (k := lst 0 A) (a := ⟨w1, bq, t⟩) Z Tryz.underlying190 Tryz.underlying24 Z Z mmZ hM1 (List.mem_append_left _ hin1)) ?_))))))
  refine WMd Z (D_alloc Z zv232) ?_
  rintro _ _ ⟨b3, rfl, rfl⟩
  refine ⟨⟨_, pqZ⟩, ?_⟩
  refine WM_do0 Z Z Z (D_store (vs := [_, _, _]) Z Tryz.sizeOf232 Z Z Z Z Z plZ (nb Z)) ?_
  rintro _ _ rfl
  refine ⟨⟨_, pqZ⟩, ?_⟩
  refine WM_nil (WQ_code (WCr (WLf Z fa232_2 (WLl Z sc24 mmZ Z (WLf Z fa232_2 (WLs (vs := [_]) Z Tryz.sizeOf24 Z Z plZ (nb Z) ?_))))))
  refine WL_nil (WQ_code (WC_drawR [⟨some mb, _⟩] [(0, true), (1, true), (2, true), (3, true), (4, true), (5, true), (6, true), (7, false)] followsMixed Z Z (by kernel_rfl) pqZ ?_))
  refine WMa Z (WMa Z (WMf Z fa194_1 (WMl Z sc190 mmZ Z (WMf Z fa232_1 (WMl Z sc24 mmZ Z (WMv Z (R_loadA (vs := [_, _, _]) Z ag232 Z mmZ Z atZ) ?_))))))
  refine WM_do0 Z Z Z (D_mapSet (ek := ekQ) (ev := evQ) (k := lst 0 A) (a := ⟨w1, bq, t⟩) (v := (⟨w1, bq, hd 0 B⟩ : Nd)) Z Tryz.underlying190 Tryz.underlying24 Z Z Z plZ hM1 (List.mem_append_left _ hin1)) ?_
  rintro _ _ ⟨es2, mc2, hM2, rfl⟩
  refine ⟨⟨_, pqZ⟩, ?_⟩
  rw [setL_append, setL_last t (hd 0 B) A 0 w1 bq hA hqA.nodup hin1, setL_out (by rw [nds_keys]; exact out_right hq hA)] at hM2
  refine WM_nil (WQ_code (WC_seq (WCr (WLf Z fa232_2 (WLl Z sc24 mmZ Z (WLa Z (WL_nil (WQ_code ?_))))))))
  refine WC_dec Z (fun c3 => ?_) (fun c3 => ?_)
  ·have h8 : ((hd 0 B : Nat) : Int) = 0 := c3
   obtain rfl : B = [] := hqB.hd0.1 (by omega)
   refine WC_region (WLa Z (WLf Z fa232_1 (WLl Z sc24 mmZ Z (WLa Z (WLf Z fa194_0 (WLf Z fa192_1 (WLs (vs := [_]) Z Tryz.sizeOf24 Z Z plZ (nb Z) ?_)))))))
   refine WL_nil (WQ_code (WCr (WLf Z fa232_0 (WLl Z sc3 mmZ Z (WLa Z (WLa Z (WL_nil (WQ_code (WC_ret ?_)))))))))
   refine WQ2 Z (by
     exact ⟨_, mc2, hd t A, lst 0 A, rfl, rfl, (by rw [hd_append]; exact hd_ne hA), (by rw [List.append_nil]), hM2⟩) pqZ
  ·have hB : B ≠ [] := fun e => c3 (by rw [e]; rfl)
   obtain ⟨w2, nq, hin2⟩ := hd_in 0 t B hB
   refine WC_seq (WC_draw _ [(0, true), (1, true), (2, true), (3, true), (4, true), (5, true), (6, true), (7, false), (8, false)] followsMixed Z Z (by kernel_rfl) .all ?_)
   refine WMa Z (WMa Z (WMf Z fa194_1 (WMl Z sc190 mmZ Z (WMf Z fa232_2 (WMl Z sc24 mmZ Z (WMv Z (R_look (ek := ekQ) (ev := evQ) (k := hd 0 B) (a := ⟨w2, t, nq⟩) Z Tryz.underlying190 Tryz.underlying24 Z Z mmZ hM2 (List.mem_append_right _ hin2)) ?_))))))
   refine WMd Z (D_alloc Z zv232) ?_
   rintro _ _ ⟨b4, rfl, rfl⟩
   refine ⟨⟨_, pqZ⟩, ?_⟩
   refine WM_do0 Z Z Z (D_store (vs := [_, _, _]) Z Tryz.sizeOf232 Z Z Z Z Z plZ (nb Z)) ?_
   rintro _ _ rfl
   refine ⟨⟨_, pqZ⟩, ?_⟩
   refine WM_nil (WQ_code (WCr (WLf Z fa232_1 (WLl Z sc24 mmZ Z (WLf Z fa232_1 (WLs (vs := [_]) Z Tryz.sizeOf24 Z Z plZ (nb Z) ?_))))))
   refine WL_nil (WQ_code (WC_drawR [⟨some mb, _⟩] [(0, true), (1, true), (2, true), (3, true), (4, true), (5, true), (6, true), (7, false)] followsMixed Z Z (by kernel_rfl) pqZ ?_))
   refine WMa Z (WMa Z (WMf Z fa194_1 (WMl Z sc190 mmZ Z (WMf Z fa232_2 (WMl Z sc24 mmZ Z (WMv Z (R_loadA (vs := [_, _, _]) Z ag232 Z mmZ Z atZ) ?_))))))
   refine WM_do0 Z Z Z (D_mapSet (ek := ekQ) (ev := evQ) (k := hd 0 B) (a := ⟨w2, t, nq⟩) (v := (⟨w2, lst 0 A, nq⟩ : Nd)) Z Tryz.underlying190 Tryz.underlying24 Z Z Z plZ hM2 (List.mem_append_right _ hin2)) ?_
   rintro _ _ ⟨es3, mc3, hM3, rfl⟩
   refine ⟨⟨_, pqZ⟩, ?_⟩
   rw [setL_append, setL_head t (lst 0 A) 0 B w2 nq hB hqB.nodup hin2, setL_out (by rw [nds_keys]; exact out_left hq hB)] at hM3
   refine WM_nil (WQ_code (WCr (WLf Z fa232_0 (WLl Z sc3 mmZ Z (WLa Z (WLa Z (WL_nil (WQ_code (WC_ret ?_)))))))))
   refine WQ2 Z (by
     exact ⟨_, mc3, hd t A, lst t B, rfl, rfl, (by rw [hd_append]; exact hd_ne hA), (by rw [lst_append]; exact lst_ne hB), hM3⟩) pqZ
theorem nani_ok (a : Int) : Spec Tryz.prog 95 [.int .i64 a] [] (fun r H' => r = .bool false ∧ H' = []) := by
 refine Spec.of (E := [(0, .int .i64 a)]) Tryz.func95 rfl (by kernel_rfl) Tryz.ntmps95 rfl rfl (fun w => ?_)
 refine WCr (WLa Z (WL_nil (WQ_code (WCr (WLa Z (WLa Z (WLa Z (WLa Z (WL_nil (WQ_code (WC_ret ?_)))))))))))
 refine WQ1 Z (by
   exact ⟨congrArg Value.bool (by simp), rfl⟩) pqY
theorem nanu_ok (a : Int) : Spec Tryz.prog 178 [.int .u32 a] [] (fun r H' => r = .bool false ∧ H' = []) := by
 refine Spec.of (E := [(0, .int .u32 a)]) Tryz.func178 rfl (by kernel_rfl) Tryz.ntmps178 rfl rfl (fun w => ?_)
 refine WCr (WLa Z (WL_nil (WQ_code (WCr (WLa Z (WLa Z (WLa Z (WLa Z (WL_nil (WQ_code (WC_ret ?_)))))))))))
 refine WQ1 Z (by
   exact ⟨congrArg Value.bool (by simp), rfl⟩) pqY
theorem nant_ok (a : Int) : Spec Tryz.prog 94 [.int .u64 a] [] (fun r H' => r = .bool false ∧ H' = []) := by
 refine Spec.of (E := [(0, .int .u64 a)]) Tryz.func94 rfl (by kernel_rfl) Tryz.ntmps94 rfl rfl (fun w => ?_)
 refine WCr (WLa Z (WL_nil (WQ_code (WCr (WLa Z (WLa Z (WLa Z (WLa Z (WL_nil (WQ_code (WC_ret ?_)))))))))))
 refine WQ1 Z (by
   exact ⟨congrArg Value.bool (by simp), rfl⟩) pqY
theorem cmpi_ok (a b : Int) : Spec Tryz.prog 50 [.int .i64 a, .int .i64 b] [] (fun r H' => r = .int .i64 (cmpI a b) ∧ H' = []) := by
 refine Spec.of (E := [(0, .int .i64 a), (1, .int .i64 b)]) Tryz.func50 rfl (by kernel_rfl) Tryz.ntmps50 rfl rfl (fun w => ?_)
 refine WCr (WLa Z (WL_nil (WQ_code (WCr (WLa Z (WLq Z (nani_ok _) Z pqY ?_))))))
 refine WLa Z (WL_nil (WQ_code (WCr (WLa Z (WLq Z (nani_ok _) Z pqY ?_)))))
 refine WLa Z (WL_nil (WQ_code (WC_seq (WCr (WLa Z (WL_nil (WQ_code (WC_F Z (WC_skip (WQ_code (WC_seq (WCr (WLa Z (WL_nil (WQ_code (WC_F Z (WC_skip (WQ_code (WC_seq (WCr (WLa Z (WLa Z (WLa Z (WL_nil (WQ_code ?_)))))))))))))))))))))))))
 refine WC_dec Z (fun c1 => ?_) (fun c1 => ?_)
 ·refine WCr (WLa Z (WL_nil (WQ_code (WC_ret ?_))))
  refine WQ1 Z (by
    exact ⟨congrArg (Value.int .i64) (by unfold cmpI; (repeat split) <;> omega), rfl⟩) pqY
 ·refine WC_skip (WQ_code (WC_seq (WCr (WLa Z (WLa Z (WLa Z (WL_nil (WQ_code ?_))))))))
  refine WC_dec Z (fun c2 => ?_) (fun c2 => ?_)
  ·refine WCr (WLa Z (WL_nil (WQ_code (WC_ret ?_))))
   refine WQ1 Z (by
     exact ⟨congrArg (Value.int .i64) (by unfold cmpI; (repeat split) <;> omega), rfl⟩) pqY
  ·refine WC_skip (WQ_code (WCr (WLa Z (WL_nil (WQ_code (WC_ret ?_))))))
   refine WQ1 Z (by
     exact ⟨congrArg (Value.int .i64) (by unfold cmpI; (repeat split) <;> omega), rfl⟩) pqY
theorem cmpu_ok (a b : Int) : Spec Tryz.prog 155 [.int .u32 a, .int .u32 b] [] (fun r H' => r = .int .i64 (cmpI a b) ∧ H' = []) := by
 refine Spec.of (E := [(0, .int .u32 a), (1, .int .u32 b)]) Tryz.func155 rfl (by kernel_rfl) Tryz.ntmps155 rfl rfl (fun w => ?_)
 refine WCr (WLa Z (WL_nil (WQ_code (WCr (WLa Z (WLq Z (nanu_ok _) Z pqY ?_))))))
 refine WLa Z (WL_nil (WQ_code (WCr (WLa Z (WLq Z (nanu_ok _) Z pqY ?_)))))
 refine WLa Z (WL_nil (WQ_code (WC_seq (WCr (WLa Z (WL_nil (WQ_code (WC_F Z (WC_skip (WQ_code (WC_seq (WCr (WLa Z (WL_nil (WQ_code (WC_F Z (WC_skip (WQ_code (WC_seq (WCr (WLa Z (WLa Z (WLa Z (WL_nil (WQ_code ?_)))))))))))))))))))))))))
 refine WC_dec Z (fun c1 => ?_) (fun c1 => ?_)
 ·refine WCr (WLa Z (WL_nil (WQ_code (WC_ret ?_))))
  refine WQ1 Z (by
    exact ⟨congrArg (Value.int .i64) (by unfold cmpI; (repeat split) <;> omega), rfl⟩) pqY
 ·refine WC_skip (WQ_code (WC_seq (WCr (WLa Z (WLa Z (WLa Z (WL_nil (WQ_code ?_))))))))
  refine WC_dec Z (fun c2 => ?_) (fun c2 => ?_)
  ·refine WCr (WLa Z (WL_nil (WQ_code (WC_ret ?_))))
   refine WQ1 Z (by
     exact ⟨congrArg (Value.int .i64) (by unfold cmpI; (repeat split) <;> omega), rfl⟩) pqY
  ·refine WC_skip (WQ_code (WCr (WLa Z (WL_nil (WQ_code (WC_ret ?_))))))
   refine WQ1 Z (by
     exact ⟨congrArg (Value.int .i64) (by unfold cmpI; (repeat split) <;> omega), rfl⟩) pqY
theorem cmpt_ok (a b : Int) : Spec Tryz.prog 49 [.int .u64 a, .int .u64 b] [] (fun r H' => r = .int .i64 (cmpI a b) ∧ H' = []) := by
 refine Spec.of (E := [(0, .int .u64 a), (1, .int .u64 b)]) Tryz.func49 rfl (by kernel_rfl) Tryz.ntmps49 rfl rfl (fun w => ?_)
 refine WCr (WLa Z (WL_nil (WQ_code (WCr (WLa Z (WLq Z (nant_ok _) Z pqY ?_))))))
 refine WLa Z (WL_nil (WQ_code (WCr (WLa Z (WLq Z (nant_ok _) Z pqY ?_)))))
 refine WLa Z (WL_nil (WQ_code (WC_seq (WCr (WLa Z (WL_nil (WQ_code (WC_F Z (WC_skip (WQ_code (WC_seq (WCr (WLa Z (WL_nil (WQ_code (WC_F Z (WC_skip (WQ_code (WC_seq (WCr (WLa Z (WLa Z (WLa Z (WL_nil (WQ_code ?_)))))))))))))))))))))))))
 refine WC_dec Z (fun c1 => ?_) (fun c1 => ?_)
 ·refine WCr (WLa Z (WL_nil (WQ_code (WC_ret ?_))))
  refine WQ1 Z (by
    exact ⟨congrArg (Value.int .i64) (by unfold cmpI; (repeat split) <;> omega), rfl⟩) pqY
 ·refine WC_skip (WQ_code (WC_seq (WCr (WLa Z (WLa Z (WLa Z (WL_nil (WQ_code ?_))))))))
  refine WC_dec Z (fun c2 => ?_) (fun c2 => ?_)
  ·refine WCr (WLa Z (WL_nil (WQ_code (WC_ret ?_))))
   refine WQ1 Z (by
     exact ⟨congrArg (Value.int .i64) (by unfold cmpI; (repeat split) <;> omega), rfl⟩) pqY
  ·refine WC_skip (WQ_code (WCr (WLa Z (WL_nil (WQ_code (WC_ret ?_))))))
   refine WQ1 Z (by
     exact ⟨congrArg (Value.int .i64) (by unfold cmpI; (repeat split) <;> omega), rfl⟩) pqY
theorem cor_ok (l : List Int) (hl : l.length ≤ 100) (o : Option Nat) (c : Nat) (tl : List Value) (own : Own o l.length c 1 (ivs l) tl) : Spec Tryz.prog 48 [slV o l.length c] [⟨o, cl (ivs l ++ tl) 3⟩] (fun r H' => r = .int .i64 (orL l) ∧ H' = [⟨o, cl (ivs l ++ tl) 3⟩]) := by
 refine Spec.of (E := [(0, slV o l.length c)]) Tryz.func48 rfl (by kernel_rfl) Tryz.ntmps48 rfl rfl (fun w => ?_)
 refine WCr (WLa Z (WL_nil (WQ_code (WCr (WLa Z (WL_nil (WQ_code (WC_seq (WCr (WLa Z (WLv Z (R_len Z Tryz.underlying23 Z) ?_)))))))))))
 refine WLa Z (WL_nil (WQ_code (WC_block (WC_loopF (G := Nat) [2, 5, 8, 9, 10, 11, 12, 13, 14, 15, 16] (fun k => k ≤ l.length ∧ ∀ v ∈ l.take k, v = 0) (fun k => [(8, .int .i64 (k : Int))]) (fun k => []) (fun k => l.length - k) (0) (⟨Nat.zero_le _, by simp⟩) leZ pqY ?_))))
 rintro k ⟨hk, hz⟩
 refine WCr (WLa Z (WL_nil (WQ_code (WC_seq ?_))))
 refine WC_dec Z (fun c1 => ?_) (fun c1 => ?_)
 ·refine WC_skip (WQ_code (WC_seq (WC_block (WCr ?_))))
  obtain ⟨x, hx⟩ := getE (T := l) (i := k) (by omega)
  obtain ⟨wa, hwa⟩ := own.some_of (by omega)
  refine WLv Z (R_idxO hwa Z Tryz.underlying23 Tryz.sizeOf3 Z Z (by omega)) ?_
  refine WLv Z (R_loadO (v := .int .i64 x) hwa Z sc3 Z mmY (fm_get0 encI1 hx (j := 0) (by omega))) ?_
  refine WLa Z (WL_nil (WQ_code (WCr (WLa Z (WLa Z (WLa Z (WL_nil (WQ_code ?_))))))))
  refine WC_dec Z (fun c2 => ?_) (fun c2 => ?_)
  ·have hc := c2
   refine WCr (WLa Z (WLa Z (WL_nil (WQ_code (WC_ret ?_)))))
   refine WQ1 Z (by
     exact ⟨congrArg (Value.int .i64) (orL_hit hz hx hc).symm, rfl⟩) pqY
  ·have hc := c2
   refine WC_skip (WQ_code (WC_region (WLv Z (R_add Z Z Z (by omega)) ?_)))
   refine WLa Z (WL_nil ?_)
   refine WQ_nextF (k + 1) (⟨by omega, fun v hv => by rw [take_next hx] at hv; rcases List.mem_append.1 hv with hv | hv; exact hz v hv; rw [List.mem_singleton.1 hv]; omega⟩) (by omega) leZ (psZ) Z pqY
 ·have hkl : l.length ≤ k := by omega
  refine WC_exit (WQ_code (WCr (WLa Z (WLa Z (WL_nil (WQ_code (WC_ret ?_)))))))
  refine WQ1 Z (by
    exact ⟨congrArg (Value.int .i64) (orL_none hz hkl).symm, rfl⟩) pqY
theorem idxf_ok (l : List Int) (o : Option Nat) (c : Nat) (tl : List Value) (own : Own o l.length c 1 (ivs l) tl) (gf : Nat) (ca : List Value) (Hc : Heap) (p : Int → Bool) (hf : ∀ v ∈ l, Spec Tryz.prog gf (.int .i64 v :: ca) Hc (fun r H' => r = .bool (p v) ∧ Hc = H')) (hb : l.length ≤ 1000000) :
  Spec Tryz.prog 128 [slV o l.length c, .func (.func gf) #[] ca.toArray] (⟨o, cl (ivs l ++ tl) 3⟩ :: Hc) (fun r H' => r = .int .i64 (idxF p l) ∧ H' = ⟨o, cl (ivs l ++ tl) 3⟩ :: Hc) := by
 refine Spec.of (E := [(0, slV o l.length c), (1, .func (.func gf) #[] ca.toArray)]) Tryz.func128 rfl (by kernel_rfl) Tryz.ntmps128 rfl rfl (fun w => ?_)
 refine WCr (WLa Z (WL_nil (WQ_code (WC_seq (WCr (WLa Z (WLv Z (R_len Z Tryz.underlying23 Z) ?_)))))))
 refine WLa Z (WL_nil (WQ_code (WC_block (WC_loopF (G := Nat) [4, 5, 8, 9, 10, 11, 12, 13, 14, 15, 16, 17, 18] (fun k => k ≤ l.length ∧ ∀ v ∈ l.take k, p v = false) (fun k => [(8, .int .i64 (k : Int))]) (fun k => []) (fun k => l.length - k) (0) (⟨Nat.zero_le _, by simp⟩) leZ pqY ?_))))
 rintro k ⟨hk, hz⟩
 refine WCr (WLa Z (WL_nil (WQ_code (WC_seq ?_))))
 refine WC_dec Z (fun c1 => ?_) (fun c1 => ?_)
 ·refine WC_skip (WQ_code (WC_seq (WC_block (WCr (WLa Z (WLa Z (WL_nil (WQ_code (WCr ?_)))))))))
  obtain ⟨x, hx⟩ := getE (T := l) (i := k) (by omega)
  obtain ⟨wa, hwa⟩ := own.some_of (by omega)
  refine WLa Z (WLa Z (WLa Z (WLv Z (R_idxO hwa Z Tryz.underlying23 Tryz.sizeOf3 Z Z (by omega)) ?_)))
  refine WLv Z (R_loadO (v := .int .i64 x) hwa Z sc3 Z mmY (fm_get0 encI1 hx (j := 0) (by omega))) ?_
  refine WLc Z (hf x (List.mem_of_getElem? hx)) Z pqY ?_
  rintro _ _ ⟨_, ⟨rfl, rfl⟩, rfl⟩
  refine WL_nil (WQ_code ?_)
  refine WC_if Z (fun c2 => ?_) (fun c2 => ?_)
  ·have hc := c2
   refine WCr (WLa Z (WLa Z (WL_nil (WQ_code (WC_ret ?_)))))
   refine WQ1 Z (by
     exact ⟨congrArg (Value.int .i64) (idxF_hit hz hx hc).symm, rfl⟩) pqY
  ·have hc := c2
   refine WC_skip (WQ_code (WC_region (WLv Z (R_add Z Z Z (by omega)) ?_)))
   refine WLa Z (WL_nil ?_)
   refine WQ_nextF (k + 1) (⟨by omega, fun v hv => by rw [take_next hx] at hv; rcases List.mem_append.1 hv with hv | hv; exact hz v hv; rw [List.mem_singleton.1 hv]; exact hc⟩) (by omega) leZ (psZ) Z pqY
 ·have hkl : l.length ≤ k := by omega
  refine WC_exit (WQ_code (WCr (WLa Z (WL_nil (WQ_code (WC_ret ?_))))))
  refine WQ1 Z (by
    first | exact ⟨congrArg (Value.int .i64) (idxF_hit hz hx hc).symm, rfl⟩ | exact ⟨congrArg (Value.int .i64) (idxF_none (by rw [List.take_of_length_le hkl] at hz; exact hz)).symm, rfl⟩) pqY
theorem minf_ok (l : List Int) (o : Option Nat) (c : Nat) (tl : List Value) (own : Own o l.length c 1 (ivs l) tl) (gf : Nat) (ca : List Value) (Hc : Heap) (cf : Int → Int → Int) (hf : ∀ a ∈ l, ∀ b ∈ l, Spec Tryz.prog gf (.int .i64 a :: .int .i64 b :: ca) Hc (fun r H' => r = .int .i64 (cf a b) ∧ Hc = H')) (hl : 1 ≤ l.length) (hb : l.length ≤ 1000000) :
  Spec Tryz.prog 151 [slV o l.length c, .func (.func gf) #[] ca.toArray] (⟨o, cl (ivs l ++ tl) 3⟩ :: Hc) (fun r H' => r = .int .i64 (sel (fun a b => decide (cf a b < 0)) l) ∧ H' = ⟨o, cl (ivs l ++ tl) 3⟩ :: Hc) := by
 obtain ⟨x0, hx0⟩ := getE (T := l) (i := 0) (by omega)
 obtain ⟨wa, hwa⟩ := own.some_of (by omega)
 have hsel1 : sel (fun a b => decide (cf a b < 0)) (l.take 1) = x0 := by rw [take_next (k := 0) hx0]; rfl
 refine Spec.of (E := [(0, slV o l.length c), (1, .func (.func gf) #[] ca.toArray)]) Tryz.func151 rfl (by kernel_rfl) Tryz.ntmps151 rfl rfl (fun w => ?_)
 refine WCr (WLa Z (WL_nil (WQ_code (WC_seq (WCr (WLa Z (WLv Z (R_len Z Tryz.underlying23 Z) ?_)))))))
 refine WLa Z (WL_nil (WQ_code (WC_dF Z (by omega) ?_)))
 refine WC_skip (WQ_code (WCr (WLa Z (WLv Z (R_idxO (i := 0) hwa Z Tryz.underlying23 Tryz.sizeOf3 Z Z (by omega)) ?_))))
 refine WLv Z (R_loadO (v := .int .i64 x0) hwa Z sc3 Z mmY (fm_get0 encI1 hx0 (j := 0) (by omega))) ?_
 refine WLa Z (WL_nil (WQ_code (WC_seq (WCr (WLa Z (WL_nil (WQ_code (WC_block (WC_loopF (G := SelW) [5, 6, 14, 15, 16, 17, 18, 19, 20, 21, 22, 23, 24, 25, 26, 27, 28, 29, 30, 31] (fun y => 1 ≤ y.i ∧ y.i ≤ l.length ∧ y.m = sel (fun a b => decide (cf a b < 0)) (l.take y.i)) (fun y => [(6, .int .i64 (y.i : Int)), (5, .int .i64 y.m)]) (fun y => []) (fun y => l.length - y.i) (⟨1, x0⟩) (⟨Nat.le_refl _, hl, hsel1.symm⟩) leZ pqY ?_)))))))))
 rintro y ⟨hk1, hk, hm⟩
 refine WC_seq (WCr (WLa Z (WLa Z (WLv Z (R_len Z Tryz.underlying23 Z) ?_))))
 refine WLa Z (WL_nil (WQ_code ?_))
 refine WC_dec Z (fun c1 => ?_) (fun c1 => ?_)
 ·refine WC_skip (WQ_code (WC_seq (WC_block (WCr ?_))))
  obtain ⟨x, hx⟩ := getE (T := l) (i := y.i) (by omega)
  have hxm : x ∈ l := List.mem_of_getElem? hx
  have hsm : y.m ∈ l := by rw [hm]; exact List.mem_of_mem_take (sel_mem (fun a b => decide (cf a b < 0)) (take_ne (by omega) (by omega)))
  refine WLa Z (WLa Z (WLa Z (WLv Z (R_idxO hwa Z Tryz.underlying23 Tryz.sizeOf3 Z Z (by omega)) ?_)))
  refine WLv Z (R_loadO (v := .int .i64 x) hwa Z sc3 Z mmY (fm_get0 encI1 hx (j := 0) (by omega))) ?_
  refine WLa Z (WLc Z (hf x hxm _ hsm) Z pqY ?_)
  rintro _ _ ⟨_, ⟨rfl, rfl⟩, rfl⟩
  refine WLa Z (WL_nil (WQ_code ?_))
  refine WC_dec Z (fun c2 => ?_) (fun c2 => ?_)
  ·have hc := c2
   refine WC_region (WLa Z (WLa Z (WLv Z (R_idxO hwa Z Tryz.underlying23 Tryz.sizeOf3 Z Z (by omega)) ?_)))
   refine WLv Z (R_loadO (v := .int .i64 x) hwa Z sc3 Z mmY (fm_get0 encI1 hx (j := 0) (by omega))) ?_
   refine WLa Z (WL_nil (WQ_code (WC_region (WLa Z (WLv Z (R_add Z Z Z (by omega)) ?_)))))
   refine WLa Z (WL_nil ?_)
   refine WQ_nextF (⟨y.i + 1, x⟩) (⟨by dsimp only; omega, by dsimp only; omega, by dsimp only; rw [take_next hx, sel_next (fun a b => decide (cf a b < 0)) (take_ne (by omega) (by omega)), ← hm]; exact (if_pos (decide_eq_true hc)).symm⟩) (by dsimp only; omega) leZ (psZ) Z pqY
  ·have hc := c2
   refine WC_skip (WQ_code (WC_region (WLa Z (WLv Z (R_add Z Z Z (by omega)) ?_))))
   refine WLa Z (WL_nil ?_)
   refine WQ_nextF (⟨y.i + 1, y.m⟩) (⟨by dsimp only; omega, by dsimp only; omega, by dsimp only; rw [take_next hx, sel_next (fun a b => decide (cf a b < 0)) (take_ne (by omega) (by omega)), ← hm]; exact (if_neg (fun e => hc (of_decide_eq_true e))).symm⟩) (by dsimp only; omega) leZ (psZ) Z pqY
 ·have hkl : y.i = l.length := by omega
  refine WC_exit (WQ_code (WCr (WLa Z (WLa Z (WL_nil (WQ_code (WC_ret ?_)))))))
  refine WQ1 Z (by
    exact ⟨congrArg (Value.int .i64) (by rw [hm, hkl, List.take_length]), rfl⟩) pqY
theorem maxf_ok (l : List Int) (o : Option Nat) (c : Nat) (tl : List Value) (own : Own o l.length c 1 (ivs l) tl) (gf : Nat) (ca : List Value) (Hc : Heap) (cf : Int → Int → Int) (hf : ∀ a ∈ l, ∀ b ∈ l, Spec Tryz.prog gf (.int .i64 a :: .int .i64 b :: ca) Hc (fun r H' => r = .int .i64 (cf a b) ∧ Hc = H')) (hl : 1 ≤ l.length) (hb : l.length ≤ 1000000) :
  Spec Tryz.prog 118 [slV o l.length c, .func (.func gf) #[] ca.toArray] (⟨o, cl (ivs l ++ tl) 3⟩ :: Hc) (fun r H' => r = .int .i64 (sel (fun a b => decide (0 < cf a b)) l) ∧ H' = ⟨o, cl (ivs l ++ tl) 3⟩ :: Hc) := by
 obtain ⟨x0, hx0⟩ := getE (T := l) (i := 0) (by omega)
 obtain ⟨wa, hwa⟩ := own.some_of (by omega)
 have hsel1 : sel (fun a b => decide (0 < cf a b)) (l.take 1) = x0 := by rw [take_next (k := 0) hx0]; rfl
 refine Spec.of (E := [(0, slV o l.length c), (1, .func (.func gf) #[] ca.toArray)]) Tryz.func118 rfl (by kernel_rfl) Tryz.ntmps118 rfl rfl (fun w => ?_)
 refine WCr (WLa Z (WL_nil (WQ_code (WC_seq (WCr (WLa Z (WLv Z (R_len Z Tryz.underlying23 Z) ?_)))))))
 refine WLa Z (WL_nil (WQ_code (WC_dF Z (by omega) ?_)))
 refine WC_skip (WQ_code (WCr (WLa Z (WLv Z (R_idxO (i := 0) hwa Z Tryz.underlying23 Tryz.sizeOf3 Z Z (by omega)) ?_))))
 refine WLv Z (R_loadO (v := .int .i64 x0) hwa Z sc3 Z mmY (fm_get0 encI1 hx0 (j := 0) (by omega))) ?_
 refine WLa Z (WL_nil (WQ_code (WC_seq (WCr (WLa Z (WL_nil (WQ_code (WC_block (WC_loopF (G := SelW) [5, 6, 14, 15, 16, 17, 18, 19, 20, 21, 22, 23, 24, 25, 26, 27, 28, 29, 30, 31] (fun y => 1 ≤ y.i ∧ y.i ≤ l.length ∧ y.m = sel (fun a b => decide (0 < cf a b)) (l.take y.i)) (fun y => [(6, .int .i64 (y.i : Int)), (5, .int .i64 y.m)]) (fun y => []) (fun y => l.length - y.i) (⟨1, x0⟩) (⟨Nat.le_refl _, hl, hsel1.symm⟩) leZ pqY ?_)))))))))
 rintro y ⟨hk1, hk, hm⟩
 refine WC_seq (WCr (WLa Z (WLa Z (WLv Z (R_len Z Tryz.underlying23 Z) ?_))))
 refine WLa Z (WL_nil (WQ_code ?_))
 refine WC_dec Z (fun c1 => ?_) (fun c1 => ?_)
 ·refine WC_skip (WQ_code (WC_seq (WC_block (WCr ?_))))
  obtain ⟨x, hx⟩ := getE (T := l) (i := y.i) (by omega)
  have hxm : x ∈ l := List.mem_of_getElem? hx
  have hsm : y.m ∈ l := by rw [hm]; exact List.mem_of_mem_take (sel_mem (fun a b => decide (0 < cf a b)) (take_ne (by omega) (by omega)))
  refine WLa Z (WLa Z (WLa Z (WLv Z (R_idxO hwa Z Tryz.underlying23 Tryz.sizeOf3 Z Z (by omega)) ?_)))
  refine WLv Z (R_loadO (v := .int .i64 x) hwa Z sc3 Z mmY (fm_get0 encI1 hx (j := 0) (by omega))) ?_
  refine WLa Z (WLc Z (hf x hxm _ hsm) Z pqY ?_)
  rintro _ _ ⟨_, ⟨rfl, rfl⟩, rfl⟩
  refine WLa Z (WL_nil (WQ_code ?_))
  refine WC_dec Z (fun c2 => ?_) (fun c2 => ?_)
  ·have hc := c2
   refine WC_region (WLa Z (WLa Z (WLv Z (R_idxO hwa Z Tryz.underlying23 Tryz.sizeOf3 Z Z (by omega)) ?_)))
   refine WLv Z (R_loadO (v := .int .i64 x) hwa Z sc3 Z mmY (fm_get0 encI1 hx (j := 0) (by omega))) ?_
   refine WLa Z (WL_nil (WQ_code (WC_region (WLa Z (WLv Z (R_add Z Z Z (by omega)) ?_)))))
   refine WLa Z (WL_nil ?_)
   refine WQ_nextF (⟨y.i + 1, x⟩) (⟨by dsimp only; omega, by dsimp only; omega, by dsimp only; rw [take_next hx, sel_next (fun a b => decide (0 < cf a b)) (take_ne (by omega) (by omega)), ← hm]; exact (if_pos (decide_eq_true hc)).symm⟩) (by dsimp only; omega) leZ (psZ) Z pqY
  ·have hc := c2
   refine WC_skip (WQ_code (WC_region (WLa Z (WLv Z (R_add Z Z Z (by omega)) ?_))))
   refine WLa Z (WL_nil ?_)
   refine WQ_nextF (⟨y.i + 1, y.m⟩) (⟨by dsimp only; omega, by dsimp only; omega, by dsimp only; rw [take_next hx, sel_next (fun a b => decide (0 < cf a b)) (take_ne (by omega) (by omega)), ← hm]; exact (if_neg (fun e => hc (of_decide_eq_true e))).symm⟩) (by dsimp only; omega) leZ (psZ) Z pqY
 ·have hkl : y.i = l.length := by omega
  refine WC_exit (WQ_code (WCr (WLa Z (WLa Z (WL_nil (WQ_code (WC_ret ?_)))))))
  refine WQ1 Z (by
    exact ⟨congrArg (Value.int .i64) (by rw [hm, hkl, List.take_length]), rfl⟩) pqY
theorem int_key : KeyOk Tryz.prog 3 ekW := by
 refine ⟨fun em k w => MapKept.run_checkKey Tryz.underlying3 (show MapKept.IsKey (.int .i64) (.int .i64 k) from rfl) em 9999, fun k l w h => ?_, fun a b h => by simp only [ekW, Value.int.injEq, true_and] at h; exact h⟩
 rcases MapKept.findNow_spec (d := .int .i64) (k := ekW k) rfl l 0 (fun x hx => by obtain ⟨k', hk⟩ := h x hx; rw [hk]; rfl) with h1 | ⟨j, e, h1, h2, h3⟩
 ·exact ⟨none, by simp [Instr.findKey, run_underlying Tryz.underlying3, h1.1, Result.andThen], .inl ⟨rfl, h1.2⟩⟩
 ·exact ⟨some (j, e.val), by simp [Instr.findKey, run_underlying Tryz.underlying3, h1, Result.andThen], .inr ⟨j, e, rfl, h2, h3⟩⟩
abbrev pcH (s : PS) : List Value := [.int .i64 (s.op : Int), .int .i64 (s.most : Int), .int .u64 (s.keep : Int), .int .u64 (s.now : Int)]
abbrev pcT (m : PM) (n : Nat) : List Value := [ptrQ m.q, .map (some m.wm), sVal m.eb m.ek n m.ec]
abbrev pC (m : PM) (s : PS) : List Value := pcH s ++ (s.C.flatMap encC ++ pcT m s.E.length)
abbrev poP (m : PM) (s : PS) : Ent := ⟨some m.p, cl (pC m s) 136⟩
abbrev poW (m : PM) : Ent := ⟨some m.wm, .map m.wes m.wmc⟩
abbrev poV (m : PM) (s : PS) : Ent := ⟨m.eb, cl (m.epre ++ (s.E.flatMap encV ++ m.etl)) 143⟩
abbrev poH (m : PM) (s : PS) : Heap := poP m s :: (qH m.q m.qm (fq s.Q) s.n m.qes m.qmc ++ [poW m, poV m s])
abbrev ptrP (p : Nat) : Value := .pointer (some ⟨p, 0, none⟩)
structure PIs (m : PM) (s : PS) : Prop where
 cl : s.C.length = 64
 qk : Qk (fq s.Q) s.n
 qM : Mp (.int .u64) ekQ evQ m.qes (nds 0 0 (fq s.Q))
 wM : Mk ekW evW m.wes m.wmc (wq s.Q)
 eO : OwnS m.eb m.ek s.E.length m.ec 3 m.epre (s.E.flatMap encV) m.etl
 who : ∀ x ∈ s.Q, 0 ≤ x.who ∧ x.who ≤ 1000
 op : 1 ≤ s.op ∧ s.op ≤ 64
 most : s.most ≤ 64
 since : ∀ x ∈ s.C, x.since ≤ s.now
 now : s.now ≤ 18446744073709551614
 keep : 1 ≤ s.keep ∧ s.keep ≤ 18446744073709551615
 st : ∀ x ∈ s.C, 0 ≤ x.st ∧ x.st ≤ 3
theorem pc_len {C : List Cn} (h : C.length = 64) : (C.flatMap encC).length = 192 := by rw [fm_length encC3, h]
theorem pc_t {C : List Cn} (h : C.length = 64) {A T : List Value} (hA : A.length = 4) (j : Nat) : (A ++ (C.flatMap encC ++ T))[196 + j]? = T[j]? := by
 rw [List.getElem?_append_right (by omega), List.getElem?_append_right (by rw [pc_len h]; omega), pc_len h]
 congr 1; omega
theorem pc_at {C : List Cn} (h : C.length = 64) {A T : List Value} (hA : A.length = 4) : At (A ++ (C.flatMap encC ++ T)) 4 (C.flatMap encC) := fun j v hj => by
 have hl := (List.getElem?_eq_some_iff.1 hj).1
 rw [List.getElem?_append_right (by omega), show 4 + j - A.length = j from by omega, List.getElem?_append_left hl]; exact hj
theorem pc_put {C : List Cn} {A T vs : List Value} (hA : A.length = 4) {i : Nat} {x y : Cn} (hx : C[i]? = some x) (hv : vs = encC y) : putAt (A ++ (C.flatMap encC ++ T)) (0 + 4 + i * 3) vs = A ++ ((C.set i y).flatMap encC ++ T) := by
 subst hv
 rw [Nat.zero_add, ← hA, putAt_append]
 have := fm_put encC3 (y := y) hx (j := 0) (vs := encC y) (by simp) rfl T
 rw [Nat.add_zero] at this
 rw [this]
theorem pc_room {C : List Cn} (h : C.length = 64) {A T : List Value} (hA : A.length = 4) {i : Nat} (hi : i < 64) : 0 + 4 + i * 3 + 3 ≤ (A ++ (C.flatMap encC ++ T)).length := by
 rw [List.length_append, List.length_append, pc_len h]; omega
theorem pc_get {C : List Cn} {A T : List Value} (hA : A.length = 4) {i : Nat} {x : Cn} (hx : C[i]? = some x) {j : Nat} (hj : j < 3) : (A ++ (C.flatMap encC ++ T))[0 + 4 + i * 3 + j]? = (encC x)[j]? := by
 rw [List.getElem?_append_right (by omega), show 0 + 4 + i * 3 + j - A.length = i * 3 + j from by omega]
 exact fm_get encC3 hx hj T
theorem pc_atC {C : List Cn} {A T : List Value} (hA : A.length = 4) {i : Nat} {x : Cn} (hx : C[i]? = some x) : At (A ++ (C.flatMap encC ++ T)) (4 + i * 3) (encC x) := fun j v hj => by
 have hl := (List.getElem?_eq_some_iff.1 hj).1
 rw [List.getElem?_append_right (by omega), show 4 + i * 3 + j - A.length = i * 3 + j from by omega, fm_get encC3 hx hl T]; exact hj
theorem pc_putT {C : List Cn} (h : C.length = 64) {A T : List Value} (hA : A.length = 4) (j : Nat) (v : Value) : putAt (A ++ (C.flatMap encC ++ T)) (196 + j) [v] = A ++ (C.flatMap encC ++ putAt T j [v]) := by
 rw [show 196 + j = A.length + ((C.flatMap encC).length + j) from by rw [pc_len h]; omega, putAt_append, putAt_append]
theorem pc_roomT {C : List Cn} (h : C.length = 64) {A T : List Value} (hA : A.length = 4) {j : Nat} (hj : j < T.length) : 196 + j + 1 ≤ (A ++ (C.flatMap encC ++ T)).length := by
 rw [List.length_append, List.length_append, pc_len h]; omega
theorem PIs.nd {m : PM} {s : PS} (h : PIs m s) : (s.Q.map (·.who)).Nodup := by
 have := h.wM.nodup
 rwa [List.map_map] at this
theorem pigeonP {α : Type} [DecidableEq α] : ∀ (ks m : List α), ks.Nodup → (∀ k ∈ ks, k ∈ m) → ks.length ≤ m.length
 | [], m, _, _ => Nat.zero_le _
 | k :: ks, m, hn, h => by
  rw [List.nodup_cons] at hn
  have := pigeonP ks (m.erase k) hn.2 (fun x hx => (List.mem_erase_of_ne (fun e => hn.1 (by rw [← e]; exact hx))).2 (h x (List.mem_cons_of_mem _ hx)))
  rw [List.length_erase_of_mem (h k (List.mem_cons_self ..))] at this
  have h2 := List.length_pos_of_mem (h k (List.mem_cons_self ..))
  rw [List.length_cons]; omega
theorem who_len (Q : List Qp) (hn : (Q.map (·.who)).Nodup) (h : ∀ x ∈ Q, 0 ≤ x.who ∧ x.who ≤ 1000) : Q.length ≤ 1001 := by
 have := pigeonP (Q.map (·.who)) ((List.range 1001).map (fun i : Nat => (i : Int))) hn (fun k hk => by
  obtain ⟨x, hx, rfl⟩ := List.mem_map.1 hk
  have := h x hx
  exact List.mem_map.2 ⟨x.who.toNat, List.mem_range.2 (by omega), by omega⟩)
 simpa using this
theorem PIs.ql {m : PM} {s : PS} (h : PIs m s) : s.Q.length ≤ 1001 := who_len s.Q h.nd h.who
abbrev ptrB (p : Nat) : Value := .pointer (some ⟨p, 0, none⟩)
structure Br where
 limit : Int
 probes : Int
 opn : Nat
 last : Nat
 gen : Int
 st : Int
 opened : Nat
 failed : Int
 allowed : Int
 good : Int
def brV (b : Br) : List Value := [.int .i64 b.limit, .int .i64 b.probes, .int .u64 (b.opn : Int), .int .u64 (b.last : Int), .int .i64 b.gen, .int .i64 b.st, .int .u64 (b.opened : Int), .int .i64 b.failed, .int .i64 b.allowed, .int .i64 b.good]
def zeroB : Br := ⟨0, 0, 0, 0, 0, 0, 0, 0, 0, 0⟩
def mayE (b : Br) (now : Nat) : Int := if now < b.last ∨ now = 18446744073709551615 then 3 else 0
def stB (b : Br) (now : Nat) : Int := if b.st = 1 ∧ b.opn ≤ now - b.opened then 2 else b.st
abbrev rdB (b : Br) (now : Nat) : Prop := stB b now = 0 ∨ (stB b now = 2 ∧ (b.st = 1 ∨ b.allowed < b.probes))
def alB (b : Br) (now : Nat) : Br :=
 if stB b now = 2 then (if b.st = 1 then ⟨b.limit, b.probes, b.opn, now, b.gen + 1, 2, 0, 0, 0 + 1, 0⟩ else ⟨b.limit, b.probes, b.opn, now, b.gen, b.st, b.opened, b.failed, b.allowed + 1, b.good⟩) else ⟨b.limit, b.probes, b.opn, now, b.gen, b.st, b.opened, b.failed, b.allowed, b.good⟩
def dnB (b : Br) (now : Nat) (good : Bool) : Br :=
 if b.st = 0 then (if good = true then ⟨b.limit, b.probes, b.opn, now, b.gen, b.st, b.opened, 0, b.allowed, b.good⟩ else if b.limit ≤ b.failed + 1 then ⟨b.limit, b.probes, b.opn, now, b.gen + 1, 1, now, 0, 0, 0⟩ else ⟨b.limit, b.probes, b.opn, now, b.gen, b.st, b.opened, b.failed + 1, b.allowed, b.good⟩)
 else if b.st = 2 then (if good = true then (if b.probes ≤ b.good + 1 then ⟨b.limit, b.probes, b.opn, now, b.gen + 1, 0, 0, 0, 0, 0⟩ else ⟨b.limit, b.probes, b.opn, now, b.gen, b.st, b.opened, b.failed, b.allowed, b.good + 1⟩) else ⟨b.limit, b.probes, b.opn, now, b.gen + 1, 1, now, 0, 0, 0⟩) else ⟨b.limit, b.probes, b.opn, now, b.gen, b.st, b.opened, b.failed, b.allowed, b.good⟩
structure Fit (b : Br) : Prop where
 lim : 1 ≤ b.limit ∧ b.limit ≤ 1000
 prb : 1 ≤ b.probes ∧ b.probes ≤ 1000
 opn : 1 ≤ b.opn ∧ b.opn ≤ 4294967296
 tm : b.opened ≤ b.last ∧ b.last ≤ 18446744073709551614
 gen : 0 ≤ b.gen ∧ b.gen ≤ 1000000
 cl : b.st = 0 → 0 ≤ b.failed ∧ b.failed < b.limit ∧ b.allowed = 0 ∧ b.good = 0 ∧ b.opened = 0
 op : b.st = 1 → b.failed = 0 ∧ b.allowed = 0 ∧ b.good = 0
 hf : b.st = 2 → b.failed = 0 ∧ 0 ≤ b.allowed ∧ b.allowed ≤ b.probes ∧ 0 ≤ b.good ∧ b.good < b.probes ∧ b.opened = 0
 st : b.st = 0 ∨ b.st = 1 ∨ b.st = 2
theorem bk_may_ok (b : Br) (hl : 1 ≤ b.limit) (now p : Nat) : Spec Tryz.prog 123 [ptrB p, .int .u64 (now : Int)] [⟨some p, cl (brV b) 189⟩] (fun r H' => r = .int .i64 (mayE b now) ∧ H' = [⟨some p, cl (brV b) 189⟩]) := by
 refine Spec.of (E := [(0, ptrB p), (1, .int .u64 (now : Int))]) Tryz.func123 rfl (by kernel_rfl) Tryz.ntmps123 rfl rfl (fun w => ?_)
 refine WCr (WLa Z (WL_nil (WQ_code (WC_seq (WC_block (WCr (WLa Z (WLv Z (R_ptrEqNil Z Tryz.underlying121 Z) ?_))))))))
 refine WLa Z (WLa Z (WLa Z (WLf Z fa189_0 (WLl Z sc3 mmZ Z (WLa Z (WLa Z (WLa Z (WL_nil (WQ_code (WC_dF Z (by omega) ?_))))))))))
 refine WCr (WLa Z (WLa Z (WLa Z (WLf Z fa189_3 (WLl Z sc25 mmZ Z (WLa Z (WLa Z ?_)))))))
 refine WL_splitD (s := 22) Z (fun c1 => ?_) (fun c1 => ?_)
 ·refine WLa Z (WLa Z (WLa Z (WLa Z (WL_nil (WQ_code (WC_T Z (WCr (WLa Z (WL_nil (WQ_code (WC_ret ?_)))))))))))
  refine WQ1 Z (by
    exact ⟨congrArg (Value.int .i64) (by rw [mayE]; split <;> omega), rfl⟩) pqZ
 ·refine WLa Z (WLa Z (WLa Z (WLa Z (WL_nil (WQ_code ?_)))))
  refine WC_dec Z (fun c2 => ?_) (fun c2 => ?_)
  ·refine WCr (WLa Z (WL_nil (WQ_code (WC_ret ?_))))
   refine WQ1 Z (by
     exact ⟨congrArg (Value.int .i64) (by rw [mayE]; split <;> omega), rfl⟩) pqZ
  ·refine WC_skip (WQ_code (WCr (WLa Z (WL_nil (WQ_code (WC_ret ?_))))))
   refine WQ1 Z (by
     exact ⟨congrArg (Value.int .i64) (by rw [mayE]; split <;> omega), rfl⟩) pqZ
theorem bk_state_ok (b : Br) (now p : Nat) (h : b.opened ≤ now) (hn : now ≤ 18446744073709551615) : Spec Tryz.prog 159 [ptrB p, .int .u64 (now : Int)] [⟨some p, cl (brV b) 189⟩] (fun r H' => r = .int .i64 (stB b now) ∧ H' = [⟨some p, cl (brV b) 189⟩]) := by
 refine Spec.of (E := [(0, ptrB p), (1, .int .u64 (now : Int))]) Tryz.func159 rfl (by kernel_rfl) Tryz.ntmps159 rfl rfl (fun w => ?_)
 refine WCr (WLa Z (WL_nil (WQ_code (WC_seq (WC_seq (WC_draw _ [(0, true), (1, true), (2, true), (3, true), (4, true), (5, true), (6, true), (7, true), (8, true), (9, true), (10, true), (11, true), (12, true), (13, true), (14, true), (15, true), (16, true), (17, true), (18, true), (19, true)] followsMixed Z Z (by kernel_rfl) .all ?_))))))
 refine WMa Z (WMa Z (WMf Z fa189_5 (WMf Z fa187_0 (WMl Z sc185 mmZ Z (WMa Z (WMa Z ?_))))))
 refine WM_splitD (s := 11) Z (fun c1 => ?_) (fun c1 => ?_)
 ·refine WMa Z (WMa Z (WMa Z (WMf Z fa189_5 (WMf Z fa187_1 (WMl Z sc25 mmZ Z (WMv Z (R_subR (r := ((now - b.opened : Nat) : Int)) Z Z Z (by rw [w64 ⟨by omega, by omega⟩]; omega)) ?_))))))
  refine WMa Z (WMa Z (WMf Z fa189_2 (WMl Z sc25 mmZ Z (WMa Z (WMa Z (WM_nil (WQ_code ?_)))))))
  refine WC_dec Z (fun c2 => ?_) (fun c2 => ?_)
  ·refine WCr (WLa Z (WL_nil (WQ_code (WC_ret ?_))))
   refine WQ1 Z (by
     exact ⟨congrArg (Value.int .i64) (by rw [stB]; split <;> omega), rfl⟩) pqZ
  ·refine WC_skip (WQ_code (WCr (WLa Z (WLa Z (WLf Z fa189_5 (WLf Z fa187_0 (WLl Z sc185 mmZ Z (WLa Z (WL_nil (WQ_code (WC_ret ?_)))))))))))
   refine WQ1 Z (by
     exact ⟨congrArg (Value.int .i64) (by rw [stB]; split <;> omega), rfl⟩) pqZ
 ·refine WMa Z (WMa Z (WMa Z (WMa Z (WMa Z (WMa Z (WMa Z (WMa Z (WMa Z (WMa Z (WMa Z (WMa Z (WMa Z (WM_nil (WQ_code (WC_F Z (WC_skip (WQ_code (WCr (WLa Z (WLa Z (WLf Z fa189_5 (WLf Z fa187_0 (WLl Z sc185 mmZ Z (WLa Z (WL_nil (WQ_code (WC_ret ?_)))))))))))))))))))))))))))
  refine WQ1 Z (by
    exact ⟨congrArg (Value.int .i64) (by rw [stB]; split <;> omega), rfl⟩) pqZ
theorem bk_ready_ok (b : Br) (now p : Nat) (h : b.opened ≤ now) (hn : now ≤ 18446744073709551615) : Spec Tryz.prog 158 [ptrB p, .int .u64 (now : Int)] [⟨some p, cl (brV b) 189⟩] (fun r H' => r = .bool (decide (rdB b now)) ∧ H' = [⟨some p, cl (brV b) 189⟩]) := by
 refine Spec.of (E := [(0, ptrB p), (1, .int .u64 (now : Int))]) Tryz.func158 rfl (by kernel_rfl) Tryz.ntmps158 rfl rfl (fun w => ?_)
 refine WCr (WLa Z (WL_nil (WQ_code (WC_seq (WCr (WLa Z (WLa Z (WLq Z (bk_state_ok b now p h hn) Z pqZ ?_))))))))
 refine WL_nil (WQ_code (WC_block (WCr (WLa Z (WLa Z (WL_nil (WQ_code ?_)))))))
 refine WC_dec Z (fun c1 => ?_) (fun c1 => ?_)
 ·refine WCr (WLa Z (WL_nil (WQ_code (WC_ret ?_))))
  refine WQ1 Z (by
    exact ⟨congrArg Value.bool (by rw [Bool.eq_iff_iff]; simp [rdB] <;> omega), rfl⟩) pqZ
 ·refine WCr (WLa Z (WLa Z (WL_nil (WQ_code ?_))))
  refine WC_dec Z (fun c2 => ?_) (fun c2 => ?_)
  ·refine WC_seq (WC_draw _ [(0, true), (1, true), (2, true), (3, true), (4, true), (5, true), (6, true), (7, true), (8, true), (9, true), (10, true), (11, true), (12, true), (13, true), (14, true), (15, true), (16, true), (17, true), (18, true)] followsMixed Z Z (by kernel_rfl) .all ?_)
   refine WMa Z (WMa Z (WMf Z fa189_5 (WMf Z fa187_0 (WMl Z sc185 mmZ Z (WMa Z (WMa Z ?_))))))
   refine WM_splitD (s := 18) Z (fun c3 => ?_) (fun c3 => ?_)
   ·refine WMa Z (WMa Z (WMa Z (WMa Z (WMa Z (WMa Z (WMa Z (WMa Z (WMa Z (WMa Z (WMa Z (WMa Z (WM_nil (WQ_code (WC_ret ?_))))))))))))))
    refine WQ1 Z (by
      exact ⟨congrArg Value.bool (by rw [Bool.eq_iff_iff]; simp [rdB] <;> omega), rfl⟩) pqZ
   ·refine WMa Z (WMa Z (WMf Z fa189_5 (WMf Z fa187_3 (WMl Z sc3 mmZ Z (WMa Z (WMa Z (WMf Z fa189_1 (WMl Z sc3 mmZ Z (WMa Z (WMa Z (WMa Z (WM_nil (WQ_code (WC_ret ?_))))))))))))))
    refine WQ1 Z (by
      exact ⟨congrArg Value.bool (by rw [Bool.eq_iff_iff]; simp [rdB] <;> omega), rfl⟩) pqZ
  ·refine WC_skip (WQ_code (WCr (WLa Z (WL_nil (WQ_code (WC_ret ?_))))))
   refine WQ1 Z (by
     exact ⟨congrArg Value.bool (by rw [Bool.eq_iff_iff]; simp [rdB] <;> omega), rfl⟩) pqZ
theorem bk_change_ok (b : Br) (hg : b.gen ≤ 1000000 ∧ 0 ≤ b.gen) (p : Nat) (s : Int) (o : Nat) (f a g : Int) : Spec Tryz.prog 124 [ptrB p, .agg #[.int .i64 s, .int .u64 (o : Int), .int .i64 f, .int .i64 a, .int .i64 g]] [⟨some p, cl (brV b) 189⟩]
  (fun r H' => H' = [⟨some p, cl (brV ⟨b.limit, b.probes, b.opn, b.last, b.gen + 1, s, o, f, a, g⟩) 189⟩]) := by
 refine Spec.of (E := [(0, ptrB p), (1, .agg #[.int .i64 s, .int .u64 (o : Int), .int .i64 f, .int .i64 a, .int .i64 g])]) Tryz.func124 rfl (by kernel_rfl) Tryz.ntmps124 rfl rfl (fun w => ?_)
 refine WCr (WLd Z (D_box (cs := [_, _, _, _, _]) Z Z Z) ?_)
 rintro _ _ ⟨b1, rfl, rfl⟩
 refine WL_nil (WQ_code (WCr (WLa Z (WLv Z (R_loadA (vs := [_, _, _, _, _]) Z ag187 Z mmZ Z atZ) ?_))))
 refine WLa Z (WLf Z fa189_5 (WLs (vs := [_, _, _, _, _]) Z Tryz.sizeOf187 Z Z plZ (nb Z) ?_))
 refine WL_nil (WQ_code (WC_region (WLa Z (WLa Z (WLf Z fa189_4 (WLl Z sc3 mmZ Z (WLv Z (R_add Z Z Z (by omega)) ?_)))))))
 refine WLa Z (WLf Z fa189_4 (WLs (vs := [_]) Z Tryz.sizeOf3 Z Z plZ (nb Z) ?_))
 refine WL_nil ?_
 refine WQ2 Z (by
   exact rfl) pqZ
theorem bk_allow_ok (b : Br) (hl : 1 ≤ b.limit) (hg : b.gen ≤ 1000000 ∧ 0 ≤ b.gen) (ha : 0 ≤ b.allowed ∧ b.allowed ≤ 1000) (ho : b.opened ≤ b.last) (now p : Nat) (hn : now ≤ 18446744073709551615) : Spec Tryz.prog 115 [ptrB p, .int .u64 (now : Int)] [⟨some p, cl (brV b) 189⟩]
  (fun r H' => ∃ b' n e, r = .tuple #[.int .i64 n, .int .i64 e] ∧ H' = [⟨some p, cl (brV b') 189⟩] ∧ ((mayE b now ≠ 0 ∧ n = 0 ∧ e = mayE b now ∧ b' = b) ∨ (mayE b now = 0 ∧ ¬ rdB b now ∧ n = 0 ∧ e = 11 ∧ b' = b) ∨ (mayE b now = 0 ∧ rdB b now ∧ n = b'.gen ∧ e = 0 ∧ b' = alB b now))) := by
 refine Spec.of (E := [(0, ptrB p), (1, .int .u64 (now : Int))]) Tryz.func115 rfl (by kernel_rfl) Tryz.ntmps115 rfl rfl (fun w => ?_)
 refine WCr (WLa Z (WLa Z (WL_nil (WQ_code (WC_seq (WCr (WLa Z (WLa Z (WLq Z (bk_may_ok b hl now p) Z pqZ ?_)))))))))
 refine WLa Z (WL_nil (WQ_code (WCr (WLa Z (WLa Z (WL_nil (WQ_code ?_)))))))
 refine WC_dec Z (fun c1 => ?_) (fun c1 => ?_)
 ·have c_may : mayE b now ≠ 0 := c1
  refine WCr (WLa Z (WLa Z (WLa Z (WL_nil (WQ_code (WC_ret ?_))))))
  refine WQ2 Z (by
    exact ⟨b, _, _, rfl, rfl, .inl ⟨c_may, rfl, rfl, rfl⟩⟩) pqZ
 ·have c_may : mayE b now = 0 := by omega
  have c_le : b.last ≤ now := by unfold mayE at c_may; split at c_may <;> omega
  refine WC_skip (WQ_code (WC_seq (WCr (WLa Z (WLa Z (WLq Z (bk_ready_ok b now p (by omega) hn) Z pqZ ?_))))))
  refine WLv Z (R_notD Z Z) ?_
  refine WL_nil (WQ_code ?_)
  refine WC_dec Z (fun c2 => ?_) (fun c2 => ?_)
  ·have c_rd : ¬ rdB b now := c2
   refine WCr (WLa Z (WLa Z (WL_nil (WQ_code (WC_ret ?_)))))
   refine WQ2 Z (by
     exact ⟨b, _, _, rfl, rfl, .inr (.inl ⟨c_may, c_rd, rfl, rfl, rfl⟩)⟩) pqZ
  ·have c_rd : rdB b now := Decidable.not_not.1 c2
   refine WC_skip (WQ_code (WCr (WLa Z (WLa Z (WLa Z (WLf Z fa189_3 (WLs (vs := [_]) Z Tryz.sizeOf25 Z Z plZ (nb Z) ?_)))))))
   refine WL_nil (WQ_code (WC_seq (WCr (WLa Z (WLa Z (WLq Z (bk_state_ok ⟨b.limit, b.probes, b.opn, now, b.gen, b.st, b.opened, b.failed, b.allowed, b.good⟩ now p (by (show b.opened ≤ now); omega) hn) Z pqZ ?_))))))
   refine WLa Z (WL_nil (WQ_code ?_))
   refine WC_dec Z (fun c3 => ?_) (fun c3 => ?_)
   ·have c_st : stB b now = 2 := c3
    refine WC_seq (WCr (WLa Z (WLa Z (WLf Z fa189_5 (WLf Z fa187_0 (WLl Z sc185 mmZ Z (WLa Z (WL_nil (WQ_code ?_)))))))))
    refine WC_dec Z (fun c4 => ?_) (fun c4 => ?_)
    ·refine WC_region (WLa Z (WLv Z (R_build Z zv187 pl187 Z Z) ?_))
     refine WLc Z (bk_change_ok ⟨b.limit, b.probes, b.opn, now, b.gen, b.st, b.opened, b.failed, b.allowed, b.good⟩ hg p 2 0 0 0 0) Z pqZ ?_
     rintro _ _ ⟨_, rfl, rfl⟩
     refine WL_nil (WQ_code (WC_region (WLa Z (WLa Z (WLf Z fa189_5 (WLf Z fa187_3 (WLl Z sc3 mmZ Z (WLv Z (R_add Z Z Z (by first | omega | (dsimp only; omega))) ?_))))))))
     refine WLa Z (WLf Z fa189_5 (WLf Z fa187_3 (WLs (vs := [_]) Z Tryz.sizeOf3 Z Z plZ (nb Z) ?_)))
     refine WL_nil (WQ_code (WCr (WLa Z (WLa Z (WLf Z fa189_4 (WLl Z sc3 mmZ Z (WLa Z (WLa Z (WL_nil (WQ_code (WC_ret ?_)))))))))))
     refine WQ2 Z (by
       exact ⟨⟨b.limit, b.probes, b.opn, now, b.gen + 1, 2, 0, 0, 0 + 1, 0⟩, _, _, rfl, rfl, .inr (.inr ⟨c_may, c_rd, rfl, rfl, by unfold alB; simp_all⟩)⟩) pqZ
    ·refine WC_skip (WQ_code (WC_region (WLa Z (WLa Z (WLf Z fa189_5 (WLf Z fa187_3 (WLl Z sc3 mmZ Z (WLv Z (R_add Z Z Z (by first | omega | (dsimp only; omega))) ?_))))))))
     refine WLa Z (WLf Z fa189_5 (WLf Z fa187_3 (WLs (vs := [_]) Z Tryz.sizeOf3 Z Z plZ (nb Z) ?_)))
     refine WL_nil (WQ_code (WCr (WLa Z (WLa Z (WLf Z fa189_4 (WLl Z sc3 mmZ Z (WLa Z (WLa Z (WL_nil (WQ_code (WC_ret ?_)))))))))))
     refine WQ2 Z (by
       exact ⟨⟨b.limit, b.probes, b.opn, now, b.gen, b.st, b.opened, b.failed, b.allowed + 1, b.good⟩, _, _, rfl, rfl, .inr (.inr ⟨c_may, c_rd, rfl, rfl, by unfold alB; simp_all⟩)⟩) pqZ
   ·have c_st : ¬ stB b now = 2 := c3
    refine WC_skip (WQ_code (WCr (WLa Z (WLa Z (WLf Z fa189_4 (WLl Z sc3 mmZ Z (WLa Z (WLa Z (WL_nil (WQ_code (WC_ret ?_)))))))))))
    refine WQ2 Z (by
      exact ⟨⟨b.limit, b.probes, b.opn, now, b.gen, b.st, b.opened, b.failed, b.allowed, b.good⟩, _, _, rfl, rfl, .inr (.inr ⟨c_may, c_rd, rfl, rfl, by unfold alB; simp_all⟩)⟩) pqZ
theorem bk_done_ok (b : Br) (hl : 1 ≤ b.limit) (hg : b.gen ≤ 1000000 ∧ 0 ≤ b.gen) (hf : 0 ≤ b.failed ∧ b.failed ≤ 1000) (hgd : 0 ≤ b.good ∧ b.good ≤ 1000) (now p : Nat) (g : Int) (good : Bool) : Spec Tryz.prog 68 [ptrB p, .int .u64 (now : Int), .int .i64 g, .bool good] [⟨some p, cl (brV b) 189⟩]
  (fun r H' => ∃ b' e, r = .int .i64 e ∧ H' = [⟨some p, cl (brV b') 189⟩] ∧ ((mayE b now ≠ 0 ∧ e = mayE b now ∧ b' = b) ∨ (mayE b now = 0 ∧ (g < 0 ∨ b.gen < g) ∧ e = 9 ∧ b' = b) ∨ (mayE b now = 0 ∧ ¬ (g < 0 ∨ b.gen < g) ∧ g < b.gen ∧ e = 0 ∧ b' = ⟨b.limit, b.probes, b.opn, now, b.gen, b.st, b.opened, b.failed, b.allowed, b.good⟩) ∨ (mayE b now = 0 ∧ g = b.gen ∧ e = 0 ∧ b' = dnB b now good))) := by
 refine Spec.of (E := [(0, ptrB p), (1, .int .u64 (now : Int)), (2, .int .i64 g), (3, .bool good)]) Tryz.func68 rfl (by kernel_rfl) Tryz.ntmps68 rfl rfl (fun w => ?_)
 refine WCr (WLa Z (WL_nil (WQ_code (WC_seq (WCr (WLa Z (WLa Z (WLq Z (bk_may_ok b hl now p) Z pqZ ?_))))))))
 refine WLa Z (WL_nil (WQ_code (WCr (WLa Z (WLa Z (WL_nil (WQ_code ?_)))))))
 refine WC_dec Z (fun c1 => ?_) (fun c1 => ?_)
 ·have c_may : mayE b now ≠ 0 := c1
  refine WCr (WLa Z (WLa Z (WL_nil (WQ_code (WC_ret ?_)))))
  refine WQ1 Z (by
    exact ⟨b, _, rfl, rfl, .inl ⟨c_may, rfl, rfl⟩⟩) pqZ
 ·have c_may : mayE b now = 0 := by omega
  refine WC_skip (WQ_code (WC_seq (WCr (WLa Z (WLa Z (WLa Z ?_))))))
  refine WL_splitD (s := 19) Z (fun c2 => ?_) (fun c2 => ?_)
  ·refine WLa Z (WLa Z (WLa Z (WLa Z (WLa Z (WLa Z (WLa Z (WL_nil (WQ_code (WC_T Z (WCr (WLa Z (WL_nil (WQ_code (WC_ret ?_))))))))))))))
   refine WQ1 Z (by
     exact ⟨b, _, rfl, rfl, .inr (.inl ⟨c_may, by omega, rfl, rfl⟩)⟩) pqZ
  ·refine WLa Z (WLa Z (WLa Z (WLf Z fa189_4 (WLl Z sc3 mmZ Z (WLa Z (WLa Z (WL_nil (WQ_code ?_))))))))
   refine WC_dec Z (fun c3 => ?_) (fun c3 => ?_)
   ·have c_g : g < 0 ∨ b.gen < g := by omega
    refine WCr (WLa Z (WL_nil (WQ_code (WC_ret ?_))))
    refine WQ1 Z (by
      exact ⟨b, _, rfl, rfl, .inr (.inl ⟨c_may, by omega, rfl, rfl⟩)⟩) pqZ
   ·have c_g : ¬ (g < 0 ∨ b.gen < g) := by omega
    refine WC_skip (WQ_code (WCr (WLa Z (WLa Z (WLa Z (WLf Z fa189_3 (WLs (vs := [_]) Z Tryz.sizeOf25 Z Z plZ (nb Z) ?_)))))))
    refine WL_nil (WQ_code (WC_seq (WCr (WLa Z (WLa Z (WLa Z (WLf Z fa189_4 (WLl Z sc3 mmZ Z (WLa Z (WL_nil (WQ_code ?_)))))))))))
    refine WC_dec Z (fun c4 => ?_) (fun c4 => ?_)
    ·have c_lt : g < b.gen := c4
     refine WCr (WLa Z (WL_nil (WQ_code (WC_ret ?_))))
     refine WQ1 Z (by
       exact ⟨⟨b.limit, b.probes, b.opn, now, b.gen, b.st, b.opened, b.failed, b.allowed, b.good⟩, _, rfl, rfl, .inr (.inr (.inl ⟨c_may, by omega, c_lt, rfl, rfl⟩))⟩) pqZ
    ·refine WC_skip (WQ_code (WCr (WLa Z (WLa Z (WLf Z fa189_5 (WLa Z (WL_nil (WQ_code (WC_seq (WC_block (WCr (WLa Z (WLa Z (WLf Z fa187_0 (WLl Z sc185 mmZ Z (WLa Z (WLa Z ?_)))))))))))))))))
     refine WL_splitD (s := 46) Z (fun c5 => ?_) (fun c5 => ?_)
     ·refine WLa Z (WLa Z (WLa Z (WL_nil (WQ_code ?_))))
      refine WC_if Z (fun c6 => ?_) (fun c6 => ?_)
      ·refine WC_region (WLa Z (WLa Z (WLf Z fa187_2 (WLs (vs := [_]) Z Tryz.sizeOf3 Z Z plZ (nb Z) ?_))))
       refine WL_nil (WQ_code (WCr (WLa Z (WL_nil (WQ_code (WC_ret ?_))))))
       refine WQ1 Z (by
         exact ⟨⟨b.limit, b.probes, b.opn, now, b.gen, b.st, b.opened, 0, b.allowed, b.good⟩, _, rfl, rfl, .inr (.inr (.inr ⟨c_may, by omega, rfl, by unfold dnB; simp_all⟩))⟩) pqZ
      ·refine WCr (WLa Z (WLa Z (WLf Z fa187_0 (WLl Z sc185 mmZ Z (WLa Z (WLa Z (WL_nil (WQ_code ?_))))))))
       refine WC_dec Z (fun c7 => ?_) (fun c7 => ?_)
       ·refine WCr (WLa Z (WLa Z (WLf Z fa187_2 (WLl Z sc3 mmZ Z (WLv Z (R_add Z Z Z (by omega)) ?_)))))
        refine WLa Z (WLf Z fa187_2 (WLs (vs := [_]) Z Tryz.sizeOf3 Z Z plZ (nb Z) ?_))
        refine WL_nil (WQ_code (WC_seq (WC_draw _ [(0, true), (1, true), (2, true), (3, true), (4, true), (5, true), (6, true), (7, true), (8, true)] followsMixed Z Z (by kernel_rfl) .all ?_)))
        refine WMa Z (WMa Z (WMf Z fa187_2 (WMl Z sc3 mmZ Z (WMa Z (WMa Z (WMf Z fa189_0 (WMl Z sc3 mmZ Z (WMa Z (WM_nil (WQ_code ?_))))))))))
        refine WC_dec Z (fun c8 => ?_) (fun c8 => ?_)
        ·refine WC_region (WLa Z (WLa Z (WLv Z (R_build Z zv187 pl187 Z Z) ?_)))
         refine WLc Z (bk_change_ok ⟨b.limit, b.probes, b.opn, now, b.gen, b.st, b.opened, b.failed + 1, b.allowed, b.good⟩ hg p 1 now 0 0 0) Z pqZ ?_
         rintro _ _ ⟨_, rfl, rfl⟩
         refine WL_nil (WQ_code (WCr (WLa Z (WL_nil (WQ_code (WC_ret ?_))))))
         refine WQ1 Z (by
           exact ⟨⟨b.limit, b.probes, b.opn, now, b.gen + 1, 1, now, 0, 0, 0⟩, _, rfl, rfl, .inr (.inr (.inr ⟨c_may, by omega, rfl, by unfold dnB; simp_all⟩))⟩) pqZ
        ·refine WC_skip (WQ_code (WCr (WLa Z (WL_nil (WQ_code (WC_ret ?_))))))
         refine WQ1 Z (by
           exact ⟨⟨b.limit, b.probes, b.opn, now, b.gen, b.st, b.opened, b.failed + 1, b.allowed, b.good⟩, _, rfl, rfl, .inr (.inr (.inr ⟨c_may, by omega, rfl, by unfold dnB; simp_all⟩))⟩) pqZ
       ·refine WCr (WLa Z (WLa Z (WLf Z fa187_0 (WLl Z sc185 mmZ Z (WLa Z (WLa Z ?_))))))
        refine WL_splitD (s := 84) Z (fun c9 => ?_) (fun c9 => ?_)
        ·refine WLa Z (WLa Z (WLa Z (WL_nil (WQ_code ?_))))
         refine WC_if Z (fun c10 => ?_) (fun c10 => ?_)
         ·refine WCr (WLa Z (WLa Z (WLf Z fa187_4 (WLl Z sc3 mmZ Z (WLv Z (R_add Z Z Z (by omega)) ?_)))))
          refine WLa Z (WLf Z fa187_4 (WLs (vs := [_]) Z Tryz.sizeOf3 Z Z plZ (nb Z) ?_))
          refine WL_nil (WQ_code (WC_seq (WC_draw _ [(0, true), (1, true), (2, true), (3, true), (4, true), (5, true), (6, true), (7, true), (8, true)] followsMixed Z Z (by kernel_rfl) .all ?_)))
          refine WMa Z (WMa Z (WMf Z fa187_4 (WMl Z sc3 mmZ Z (WMa Z (WMa Z (WMf Z fa189_1 (WMl Z sc3 mmZ Z (WMa Z (WM_nil (WQ_code ?_))))))))))
          refine WC_dec Z (fun c11 => ?_) (fun c11 => ?_)
          ·refine WC_region (WLa Z (WLv Z (R_build Z zv187 pl187 Z Z) ?_))
           refine WLc Z (bk_change_ok ⟨b.limit, b.probes, b.opn, now, b.gen, b.st, b.opened, b.failed, b.allowed, b.good + 1⟩ hg p 0 0 0 0 0) Z pqZ ?_
           rintro _ _ ⟨_, rfl, rfl⟩
           refine WL_nil (WQ_code (WCr (WLa Z (WL_nil (WQ_code (WC_ret ?_))))))
           refine WQ1 Z (by
             exact ⟨⟨b.limit, b.probes, b.opn, now, b.gen + 1, 0, 0, 0, 0, 0⟩, _, rfl, rfl, .inr (.inr (.inr ⟨c_may, by omega, rfl, by unfold dnB; simp_all⟩))⟩) pqZ
          ·refine WC_skip (WQ_code (WCr (WLa Z (WL_nil (WQ_code (WC_ret ?_))))))
           refine WQ1 Z (by
             exact ⟨⟨b.limit, b.probes, b.opn, now, b.gen, b.st, b.opened, b.failed, b.allowed, b.good + 1⟩, _, rfl, rfl, .inr (.inr (.inr ⟨c_may, by omega, rfl, by unfold dnB; simp_all⟩))⟩) pqZ
         ·refine WCr (WLa Z (WLa Z (WLf Z fa187_0 (WLl Z sc185 mmZ Z (WLa Z (WLa Z (WL_nil (WQ_code ?_))))))))
          refine WC_dec Z (fun c12 => ?_) (fun c12 => ?_)
          ·refine WC_region (WLa Z (WLa Z (WLv Z (R_build Z zv187 pl187 Z Z) ?_)))
           refine WLc Z (bk_change_ok ⟨b.limit, b.probes, b.opn, now, b.gen, b.st, b.opened, b.failed, b.allowed, b.good⟩ hg p 1 now 0 0 0) Z pqZ ?_
           rintro _ _ ⟨_, rfl, rfl⟩
           refine WL_nil (WQ_code (WCr (WLa Z (WL_nil (WQ_code (WC_ret ?_))))))
           refine WQ1 Z (by
             exact ⟨⟨b.limit, b.probes, b.opn, now, b.gen + 1, 1, now, 0, 0, 0⟩, _, rfl, rfl, .inr (.inr (.inr ⟨c_may, by omega, rfl, by unfold dnB; simp_all⟩))⟩) pqZ
          ·refine WC_skip (WQ_code (WCr (WLa Z (WL_nil (WQ_code (WC_ret ?_))))))
           refine WQ1 Z (by
             exact ⟨⟨b.limit, b.probes, b.opn, now, b.gen, b.st, b.opened, b.failed, b.allowed, b.good⟩, _, rfl, rfl, .inr (.inr (.inr ⟨c_may, by omega, rfl, by unfold dnB; simp_all⟩))⟩) pqZ
        ·refine WLa Z (WLa Z (WLa Z (WL_nil (WQ_code (WC_F Z (WCr (WLa Z (WLa Z (WLf Z fa187_0 (WLl Z sc185 mmZ Z (WLa Z (WLa Z (WL_nil (WQ_code ?_))))))))))))))
         refine WC_dec Z (fun c13 => ?_) (fun c13 => ?_)
         ·refine WC_region (WLa Z (WLa Z (WLv Z (R_build Z zv187 pl187 Z Z) ?_)))
          refine WLc Z (bk_change_ok ⟨b.limit, b.probes, b.opn, now, b.gen, b.st, b.opened, b.failed, b.allowed, b.good⟩ hg p 1 now 0 0 0) Z pqZ ?_
          rintro _ _ ⟨_, rfl, rfl⟩
          refine WL_nil (WQ_code (WCr (WLa Z (WL_nil (WQ_code (WC_ret ?_))))))
          refine WQ1 Z (by
            exact ⟨⟨b.limit, b.probes, b.opn, now, b.gen + 1, 1, now, 0, 0, 0⟩, _, rfl, rfl, .inr (.inr (.inr ⟨c_may, by omega, rfl, by unfold dnB; simp_all⟩))⟩) pqZ
         ·refine WC_skip (WQ_code (WCr (WLa Z (WL_nil (WQ_code (WC_ret ?_))))))
          refine WQ1 Z (by
            exact ⟨⟨b.limit, b.probes, b.opn, now, b.gen, b.st, b.opened, b.failed, b.allowed, b.good⟩, _, rfl, rfl, .inr (.inr (.inr ⟨c_may, by omega, rfl, by unfold dnB; simp_all⟩))⟩) pqZ
     ·refine WLa Z (WLa Z (WLa Z (WL_nil (WQ_code (WC_F Z (WCr (WLa Z (WLa Z (WLf Z fa187_0 (WLl Z sc185 mmZ Z (WLa Z (WLa Z (WL_nil (WQ_code ?_))))))))))))))
      refine WC_dec Z (fun c14 => ?_) (fun c14 => ?_)
      ·refine WCr (WLa Z (WLa Z (WLf Z fa187_2 (WLl Z sc3 mmZ Z (WLv Z (R_add Z Z Z (by omega)) ?_)))))
       refine WLa Z (WLf Z fa187_2 (WLs (vs := [_]) Z Tryz.sizeOf3 Z Z plZ (nb Z) ?_))
       refine WL_nil (WQ_code (WC_seq (WC_draw _ [(0, true), (1, true), (2, true), (3, true), (4, true), (5, true), (6, true), (7, true), (8, true)] followsMixed Z Z (by kernel_rfl) .all ?_)))
       refine WMa Z (WMa Z (WMf Z fa187_2 (WMl Z sc3 mmZ Z (WMa Z (WMa Z (WMf Z fa189_0 (WMl Z sc3 mmZ Z (WMa Z (WM_nil (WQ_code ?_))))))))))
       refine WC_dec Z (fun c15 => ?_) (fun c15 => ?_)
       ·refine WC_region (WLa Z (WLa Z (WLv Z (R_build Z zv187 pl187 Z Z) ?_)))
        refine WLc Z (bk_change_ok ⟨b.limit, b.probes, b.opn, now, b.gen, b.st, b.opened, b.failed + 1, b.allowed, b.good⟩ hg p 1 now 0 0 0) Z pqZ ?_
        rintro _ _ ⟨_, rfl, rfl⟩
        refine WL_nil (WQ_code (WCr (WLa Z (WL_nil (WQ_code (WC_ret ?_))))))
        refine WQ1 Z (by
          exact ⟨⟨b.limit, b.probes, b.opn, now, b.gen + 1, 1, now, 0, 0, 0⟩, _, rfl, rfl, .inr (.inr (.inr ⟨c_may, by omega, rfl, by unfold dnB; simp_all⟩))⟩) pqZ
       ·refine WC_skip (WQ_code (WCr (WLa Z (WL_nil (WQ_code (WC_ret ?_))))))
        refine WQ1 Z (by
          exact ⟨⟨b.limit, b.probes, b.opn, now, b.gen, b.st, b.opened, b.failed + 1, b.allowed, b.good⟩, _, rfl, rfl, .inr (.inr (.inr ⟨c_may, by omega, rfl, by unfold dnB; simp_all⟩))⟩) pqZ
      ·refine WCr (WLa Z (WLa Z (WLf Z fa187_0 (WLl Z sc185 mmZ Z (WLa Z (WLa Z ?_))))))
       refine WL_splitD (s := 84) Z (fun c16 => ?_) (fun c16 => ?_)
       ·refine WLa Z (WLa Z (WLa Z (WL_nil (WQ_code ?_))))
        refine WC_if Z (fun c17 => ?_) (fun c17 => ?_)
        ·refine WCr (WLa Z (WLa Z (WLf Z fa187_4 (WLl Z sc3 mmZ Z (WLv Z (R_add Z Z Z (by omega)) ?_)))))
         refine WLa Z (WLf Z fa187_4 (WLs (vs := [_]) Z Tryz.sizeOf3 Z Z plZ (nb Z) ?_))
         refine WL_nil (WQ_code (WC_seq (WC_draw _ [(0, true), (1, true), (2, true), (3, true), (4, true), (5, true), (6, true), (7, true), (8, true)] followsMixed Z Z (by kernel_rfl) .all ?_)))
         refine WMa Z (WMa Z (WMf Z fa187_4 (WMl Z sc3 mmZ Z (WMa Z (WMa Z (WMf Z fa189_1 (WMl Z sc3 mmZ Z (WMa Z (WM_nil (WQ_code ?_))))))))))
         refine WC_dec Z (fun c18 => ?_) (fun c18 => ?_)
         ·refine WC_region (WLa Z (WLv Z (R_build Z zv187 pl187 Z Z) ?_))
          refine WLc Z (bk_change_ok ⟨b.limit, b.probes, b.opn, now, b.gen, b.st, b.opened, b.failed, b.allowed, b.good + 1⟩ hg p 0 0 0 0 0) Z pqZ ?_
          rintro _ _ ⟨_, rfl, rfl⟩
          refine WL_nil (WQ_code (WCr (WLa Z (WL_nil (WQ_code (WC_ret ?_))))))
          refine WQ1 Z (by
            exact ⟨⟨b.limit, b.probes, b.opn, now, b.gen + 1, 0, 0, 0, 0, 0⟩, _, rfl, rfl, .inr (.inr (.inr ⟨c_may, by omega, rfl, by unfold dnB; simp_all⟩))⟩) pqZ
         ·refine WC_skip (WQ_code (WCr (WLa Z (WL_nil (WQ_code (WC_ret ?_))))))
          refine WQ1 Z (by
            exact ⟨⟨b.limit, b.probes, b.opn, now, b.gen, b.st, b.opened, b.failed, b.allowed, b.good + 1⟩, _, rfl, rfl, .inr (.inr (.inr ⟨c_may, by omega, rfl, by unfold dnB; simp_all⟩))⟩) pqZ
        ·refine WCr (WLa Z (WLa Z (WLf Z fa187_0 (WLl Z sc185 mmZ Z (WLa Z (WLa Z (WL_nil (WQ_code ?_))))))))
         refine WC_dec Z (fun c19 => ?_) (fun c19 => ?_)
         ·refine WC_region (WLa Z (WLa Z (WLv Z (R_build Z zv187 pl187 Z Z) ?_)))
          refine WLc Z (bk_change_ok ⟨b.limit, b.probes, b.opn, now, b.gen, b.st, b.opened, b.failed, b.allowed, b.good⟩ hg p 1 now 0 0 0) Z pqZ ?_
          rintro _ _ ⟨_, rfl, rfl⟩
          refine WL_nil (WQ_code (WCr (WLa Z (WL_nil (WQ_code (WC_ret ?_))))))
          refine WQ1 Z (by
            exact ⟨⟨b.limit, b.probes, b.opn, now, b.gen + 1, 1, now, 0, 0, 0⟩, _, rfl, rfl, .inr (.inr (.inr ⟨c_may, by omega, rfl, by unfold dnB; simp_all⟩))⟩) pqZ
         ·refine WC_skip (WQ_code (WCr (WLa Z (WL_nil (WQ_code (WC_ret ?_))))))
          refine WQ1 Z (by
            exact ⟨⟨b.limit, b.probes, b.opn, now, b.gen, b.st, b.opened, b.failed, b.allowed, b.good⟩, _, rfl, rfl, .inr (.inr (.inr ⟨c_may, by omega, rfl, by unfold dnB; simp_all⟩))⟩) pqZ
       ·refine WLa Z (WLa Z (WLa Z (WL_nil (WQ_code (WC_F Z (WCr (WLa Z (WLa Z (WLf Z fa187_0 (WLl Z sc185 mmZ Z (WLa Z (WLa Z (WL_nil (WQ_code ?_))))))))))))))
        refine WC_dec Z (fun c20 => ?_) (fun c20 => ?_)
        ·refine WC_region (WLa Z (WLa Z (WLv Z (R_build Z zv187 pl187 Z Z) ?_)))
         refine WLc Z (bk_change_ok ⟨b.limit, b.probes, b.opn, now, b.gen, b.st, b.opened, b.failed, b.allowed, b.good⟩ hg p 1 now 0 0 0) Z pqZ ?_
         rintro _ _ ⟨_, rfl, rfl⟩
         refine WL_nil (WQ_code (WCr (WLa Z (WL_nil (WQ_code (WC_ret ?_))))))
         refine WQ1 Z (by
           exact ⟨⟨b.limit, b.probes, b.opn, now, b.gen + 1, 1, now, 0, 0, 0⟩, _, rfl, rfl, .inr (.inr (.inr ⟨c_may, by omega, rfl, by unfold dnB; simp_all⟩))⟩) pqZ
        ·refine WC_skip (WQ_code (WCr (WLa Z (WL_nil (WQ_code (WC_ret ?_))))))
         refine WQ1 Z (by
           exact ⟨⟨b.limit, b.probes, b.opn, now, b.gen, b.st, b.opened, b.failed, b.allowed, b.good⟩, _, rfl, rfl, .inr (.inr (.inr ⟨c_may, by omega, rfl, by unfold dnB; simp_all⟩))⟩) pqZ
theorem bk_within_ok (n a b : Int) : Spec Tryz.prog 58 [.int .i64 n, .int .i64 a, .int .i64 b] [] (fun r H' => r = .bool (decide (a ≤ n ∧ n ≤ b)) ∧ H' = []) := by
 refine Spec.of (E := [(0, .int .i64 n), (1, .int .i64 a), (2, .int .i64 b)]) Tryz.func58 rfl (by kernel_rfl) Tryz.ntmps58 rfl rfl (fun w => ?_)
 refine WCr (WLa Z (WL_nil (WQ_code (WCr (WLa Z (WLa Z (WLa Z (WLa Z ?_))))))))
 refine WL_splitD (s := 10) Z (fun c1 => ?_) (fun c1 => ?_)
 ·refine WLa Z (WLa Z (WLa Z (WLa Z (WLa Z (WL_nil (WQ_code (WC_ret ?_)))))))
  refine WQ1 Z (by
    exact ⟨congrArg Value.bool (by rw [Bool.eq_iff_iff]; simp [] <;> omega), rfl⟩) pqZ
 ·refine WLa Z (WLa Z (WLa Z (WLa Z (WLa Z (WL_nil (WQ_code (WC_ret ?_)))))))
  refine WQ1 Z (by
    exact ⟨congrArg Value.bool (by rw [Bool.eq_iff_iff]; simp [] <;> omega), rfl⟩) pqZ
abbrev OkR (l pr : Int) (o : Nat) : Prop := 1 ≤ l ∧ l ≤ 1000 ∧ 1 ≤ pr ∧ pr ≤ 1000 ∧ 1 ≤ o ∧ o ≤ 4294967296
abbrev newB (l pr : Int) (o : Nat) : Br := ⟨l, pr, o, 0, 0, 0, 0, 0, 0, 0⟩
theorem fit_new {l pr : Int} {o : Nat} (h : OkR l pr o) : Fit (newB l pr o) := by
 obtain ⟨h1, h2, h3, h4, h5, h6⟩ := h
 exact ⟨⟨h1, h2⟩, ⟨h3, h4⟩, ⟨h5, h6⟩, ⟨Nat.le_refl _, by simp⟩, by simp, fun _ => ⟨by simp, by dsimp only; omega, rfl, rfl, rfl⟩, fun h => by simp at h, fun h => by simp at h, .inl rfl⟩
theorem bk_new_bad (l pr : Int) (o : Nat) (h : ¬ OkR l pr o) : Spec Tryz.prog 57 [.int .i64 l, .int .i64 pr, .int .u64 (o : Int)] [] (fun r H' => r = .tuple #[.pointer none, .int .i64 2] ∧ H' = []) := by
 refine Spec.of (E := [(0, .int .i64 l), (1, .int .i64 pr), (2, .int .u64 (o : Int))]) Tryz.func57 rfl (by kernel_rfl) Tryz.ntmps57 rfl rfl (fun w => ?_)
 refine WCr (WLa Z (WLa Z (WL_nil (WQ_code (WC_seq (WCr (WLa Z (WLq Z (bk_within_ok _ _ _) Z pqZ ?_))))))))
 refine WLv Z (R_notD Z Z) ?_
 refine WLa Z ?_
 refine WL_splitD (s := 11) Z (fun c1 => ?_) (fun c1 => ?_)
 ·refine WLa Z (WLa Z (WLa Z (WLa Z (WLa Z (WLa Z (WLa Z (WLa Z (WLa Z (WLa Z (WLa Z (WLa Z (WL_nil (WQ_code (WC_T Z (WCr (WLa Z (WLa Z (WL_nil (WQ_code (WC_ret ?_))))))))))))))))))))
  refine WQ2 Z (by
    exact ⟨rfl, rfl⟩) pqZ
 ·refine WLa Z (WLq Z (bk_within_ok _ _ _) Z pqZ ?_)
  refine WLv Z (R_notD Z Z) ?_
  refine WLa Z (WLa Z ?_)
  refine WL_splitD (s := 16) Z (fun c2 => ?_) (fun c2 => ?_)
  ·refine WLa Z (WLa Z (WLa Z (WLa Z (WLa Z (WLa Z (WLa Z (WL_nil (WQ_code (WC_T Z (WCr (WLa Z (WLa Z (WL_nil (WQ_code (WC_ret ?_)))))))))))))))
   refine WQ2 Z (by
     exact ⟨rfl, rfl⟩) pqZ
  ·refine WLa Z (WLa Z (WLa Z (WLa Z ?_)))
   refine WL_splitD (s := 20) Z (fun c3 => ?_) (fun c3 => ?_)
   ·refine WLa Z (WLa Z (WLa Z (WL_nil (WQ_code (WC_T Z (WCr (WLa Z (WLa Z (WL_nil (WQ_code (WC_ret ?_)))))))))))
    refine WQ2 Z (by
      exact ⟨rfl, rfl⟩) pqZ
   ·refine WLa Z (WLa Z (WLa Z (WL_nil (WQ_code ?_))))
    refine WC_dec Z (fun c4 => ?_) (fun c4 => ?_)
    ·refine WCr (WLa Z (WLa Z (WL_nil (WQ_code (WC_ret ?_)))))
     refine WQ2 Z (by
       exact ⟨rfl, rfl⟩) pqZ
    ·exfalso; apply h; refine ⟨?_, ?_, ?_, ?_, ?_, ?_⟩ <;> simp_all <;> omega
theorem bk_new_ok (l pr : Int) (o : Nat) (h : OkR l pr o) : Spec Tryz.prog 57 [.int .i64 l, .int .i64 pr, .int .u64 (o : Int)] [] (fun r H' => ∃ p, r = .tuple #[ptrB p, .int .i64 0] ∧ H' = [⟨some p, cl (brV (newB l pr o)) 189⟩]) := by
 refine Spec.of (E := [(0, .int .i64 l), (1, .int .i64 pr), (2, .int .u64 (o : Int))]) Tryz.func57 rfl (by kernel_rfl) Tryz.ntmps57 rfl rfl (fun w => ?_)
 refine WCr (WLa Z (WLa Z (WL_nil (WQ_code (WC_seq (WCr (WLa Z (WLq Z (bk_within_ok _ _ _) Z pqZ ?_))))))))
 refine WLv Z (R_notD Z Z) ?_
 refine WLa Z (WL_set (s := 11) (v := .bool false) Z (by simp; omega) ?_)
 refine WLa Z (WLq Z (bk_within_ok _ _ _) Z pqZ ?_)
 refine WLv Z (R_notD Z Z) ?_
 refine WLa Z (WLa Z (WL_set (s := 16) (v := .bool false) Z (by simp; omega) ?_))
 refine WLa Z (WLa Z (WLa Z (WLa Z (WL_set (s := 20) (v := .bool false) Z (by simp; omega) ?_))))
 refine WLa Z (WLa Z (WLa Z (WL_nil (WQ_code (WC_dF Z (by omega) ?_)))))
 refine WC_skip (WQ_code (WCr (WLa Z (WLa Z (WLa Z (WLv Z (R_build Z zv189 pl189 Z Z) ?_))))))
 refine WLd Z (D_box (cs := [_, _, _, _, _, _, _, _, _, _]) Z Z Z) ?_
 rintro _ _ ⟨b1, rfl, rfl⟩
 refine WLa Z (WLa Z (WL_nil (WQ_code (WC_ret ?_))))
 refine WQ2 Z (by
   exact ⟨_, rfl, rfl⟩) pqZ
theorem bk_readyF_ok (b : Br) (hl : 1 ≤ b.limit) (ho : b.opened ≤ b.last) (now p : Nat) (hn : now ≤ 18446744073709551615) : Spec Tryz.prog 157 [ptrB p, .int .u64 (now : Int)] [⟨some p, cl (brV b) 189⟩]
  (fun r H' => ∃ s e, r = .tuple #[.bool s, .int .i64 e] ∧ H' = [⟨some p, cl (brV b) 189⟩] ∧ ((mayE b now ≠ 0 ∧ s = false ∧ e = mayE b now) ∨ (mayE b now = 0 ∧ s = decide (rdB b now) ∧ e = 0))) := by
 refine Spec.of (E := [(0, ptrB p), (1, .int .u64 (now : Int))]) Tryz.func157 rfl (by kernel_rfl) Tryz.ntmps157 rfl rfl (fun w => ?_)
 refine WCr (WLa Z (WLa Z (WL_nil (WQ_code (WC_seq (WCr (WLa Z (WLa Z (WLq Z (bk_may_ok b hl now p) Z pqZ ?_)))))))))
 refine WLa Z (WL_nil (WQ_code (WCr (WLa Z (WLa Z (WL_nil (WQ_code ?_)))))))
 refine WC_dec Z (fun c1 => ?_) (fun c1 => ?_)
 ·refine WCr (WLa Z (WLa Z (WLa Z (WL_nil (WQ_code (WC_ret ?_))))))
  refine WQ2 Z (by
    exact ⟨_, _, rfl, rfl, .inl ⟨by omega, rfl, rfl⟩⟩) pqZ
 ·have c_may : mayE b now = 0 := by omega
  have c_le : b.last ≤ now := by unfold mayE at c_may; split at c_may <;> omega
  refine WC_skip (WQ_code (WCr (WLa Z (WLa Z (WLq Z (bk_ready_ok b now p (by omega) hn) Z pqZ ?_)))))
  refine WLa Z (WLa Z (WL_nil (WQ_code (WC_ret ?_))))
  refine WQ2 Z (by
    exact ⟨_, _, rfl, rfl, .inr ⟨c_may, rfl, rfl⟩⟩) pqZ
theorem Fit.l {b : Br} (h : Fit b) : 1 ≤ b.limit := h.lim.1
theorem Fit.g {b : Br} (h : Fit b) : b.gen ≤ 1000000 ∧ 0 ≤ b.gen := ⟨h.gen.2, h.gen.1⟩
theorem Fit.a {b : Br} (h : Fit b) : 0 ≤ b.allowed ∧ b.allowed ≤ 1000 := by
 obtain ⟨lim, prb, opn, tm, gen, cl, op, hf, st⟩ := h
 omega
theorem Fit.f {b : Br} (h : Fit b) : 0 ≤ b.failed ∧ b.failed ≤ 1000 := by
 obtain ⟨lim, prb, opn, tm, gen, cl, op, hf, st⟩ := h
 omega
theorem Fit.gd {b : Br} (h : Fit b) : 0 ≤ b.good ∧ b.good ≤ 1000 := by
 obtain ⟨lim, prb, opn, tm, gen, cl, op, hf, st⟩ := h
 omega
theorem fit_last {b : Br} (hf : Fit b) {now : Nat} (h : b.last ≤ now ∧ now ≤ 18446744073709551614) : Fit ⟨b.limit, b.probes, b.opn, now, b.gen, b.st, b.opened, b.failed, b.allowed, b.good⟩ := by
 obtain ⟨lim, prb, opn, tm, gen, cl, op, hf, st⟩ := hf
 exact ⟨lim, prb, opn, ⟨by dsimp only; omega, h.2⟩, gen, cl, op, hf, st⟩
theorem fit_al {b : Br} (hf : Fit b) (hg : b.gen ≤ 900000) {now : Nat} (h : b.last ≤ now ∧ now ≤ 18446744073709551614) (h2 : rdB b now) : Fit (alB b now) ∧ (alB b now).gen ≤ b.gen + 1 := by
 obtain ⟨lim, prb, opn, tm, gen, cl, op, hf, st⟩ := hf
 unfold rdB at h2
 unfold alB
 have hs : stB b now = 2 ∨ stB b now = b.st := by unfold stB; split <;> simp
 split
 ·split
  ·exact ⟨⟨lim, prb, opn, ⟨by simp, h.2⟩, by dsimp only; omega, fun h => by dsimp only at h; omega, fun h => by dsimp only at h; omega, fun h => by dsimp only; omega, .inr (.inr rfl)⟩, by dsimp only; omega⟩
  ·have h2 : b.st = 2 := by rename_i h3 h4; unfold stB at h3; split at h3 <;> omega
   exact ⟨⟨lim, prb, opn, ⟨by dsimp only; omega, h.2⟩, gen, fun h => by dsimp only at h; omega, fun h => by dsimp only at h; omega, fun h => by dsimp only; omega, st⟩, by dsimp only; omega⟩
 ·exact ⟨⟨lim, prb, opn, ⟨by dsimp only; omega, h.2⟩, gen, cl, op, hf, st⟩, by dsimp only; omega⟩
theorem fit_dn {b : Br} (hf : Fit b) (hg : b.gen ≤ 900000) {now : Nat} (h : b.last ≤ now ∧ now ≤ 18446744073709551614) (good : Bool) : Fit (dnB b now good) ∧ (dnB b now good).gen ≤ b.gen + 1 := by
 have h0 := fit_last hf h
 obtain ⟨lim, prb, opn, tm, gen, cl, op, hf, st⟩ := hf
 have hop : Fit ⟨b.limit, b.probes, b.opn, now, b.gen + 1, 1, now, 0, 0, 0⟩ := ⟨lim, prb, opn, ⟨Nat.le_refl _, h.2⟩, by dsimp only; omega, fun h => by dsimp only at h; omega, fun h => ⟨rfl, rfl, rfl⟩, fun h => by dsimp only at h; omega, .inr (.inl rfl)⟩
 unfold dnB
 split
 ·split
  ·exact ⟨⟨lim, prb, opn, ⟨by dsimp only; omega, h.2⟩, gen, fun h => by dsimp only; omega, fun h => by dsimp only at h; omega, fun h => by dsimp only at h; omega, st⟩, by dsimp only; omega⟩
  ·split
   ·exact ⟨hop, by dsimp only; omega⟩
   ·exact ⟨⟨lim, prb, opn, ⟨by dsimp only; omega, h.2⟩, gen, fun h => by dsimp only; omega, fun h => by dsimp only at h; omega, fun h => by dsimp only at h; omega, st⟩, by dsimp only; omega⟩
 ·split
  ·split
   ·split
    ·exact ⟨⟨lim, prb, opn, ⟨by simp, h.2⟩, by dsimp only; omega, fun h => by dsimp only; omega, fun h => by dsimp only at h; omega, fun h => by dsimp only at h; omega, .inl rfl⟩, by dsimp only; omega⟩
    ·exact ⟨⟨lim, prb, opn, ⟨by dsimp only; omega, h.2⟩, gen, fun h => by dsimp only at h; omega, fun h => by dsimp only at h; omega, fun h => by dsimp only; omega, st⟩, by dsimp only; omega⟩
   ·exact ⟨hop, by dsimp only; omega⟩
  ·exact ⟨h0, by dsimp only; omega⟩
def stp (x b : Nat) : Nat := (x ^^^ b) * 16777619 % 4294967296
def mix (x : Nat) : Nat := (x ^^^ x / 65536) * 2246822519 % 4294967296
def fld (l : List UInt8) : Nat := l.foldl (fun x b => stp x b.toNat) 2166136261
def ib (i : Int) : Nat := (i % 256).toNat
def sco (s : ByteArray) (i : Int) : Nat := mix (stp (fld (byt s)) (ib i)) ^^^ mix (stp (fld (byt s)) (ib i)) / 8192
theorem stp_lt (x b : Nat) : stp x b < 4294967296 := by
 unfold stp; exact Nat.mod_lt _ (by omega)
theorem mix_lt (x : Nat) : mix x < 4294967296 := by
 unfold mix; exact Nat.mod_lt _ (by omega)
theorem ib_lt (i : Int) : ib i < 256 := by unfold ib; omega
theorem fld_next {l : List UInt8} {k : Nat} {b : UInt8} (h : l[k]? = some b) : fld (l.take (k + 1)) = stp (fld (l.take k)) b.toNat := by
 unfold fld
 rw [take_next h, List.foldl_append, List.foldl_cons, List.foldl_nil]
theorem foldl_lt (f : Nat → UInt8 → Nat) (N : Nat) (hf : ∀ x b, f x b < N) : ∀ (l : List UInt8) (x : Nat), x < N → l.foldl f x < N := by
 intro l
 induction l with
 | nil => intro x h; exact h
 | cons b r ih => intro x _; rw [List.foldl_cons]; exact ih _ (hf x b)
theorem fld_lt (l : List UInt8) : fld l < 4294967296 := by
 unfold fld
 exact foldl_lt _ _ (fun x b => stp_lt x b.toNat) l 2166136261 (by omega)
structure ScW where
 k : Nat
 x : Nat
structure Bk where
 w : Int
 sh : Int
 act : Int
 up : Bool
 p : Nat
 b : Br
abbrev encB (x : Bk) : List Value := [.int .i64 x.w, .int .i64 x.sh, .int .i64 x.act, .bool x.up, ptrB x.p]
theorem encB5 (x : Bk) : (encB x).length = 5 := rfl
abbrev Cl := Int × (Int × Int)
abbrev ekI (k : Int) : Value := .int .i64 k
abbrev evC (x : Int × Int) : Value := .agg #[.int .i64 x.1, .int .i64 x.2]
theorem ekI_key (k : Int) : MapKept.IsKey (.int .i64) (ekI k) := rfl
theorem ekI_inj (a b : Int) (h : ekI a = ekI b) : a = b := by
 simpa only [ekI, Value.int.injEq, true_and] using h
structure Bm where
 p : Nat
 k : Nat
 n : Nat
 ob : Nat
 oc : Nat
 tl : List Value
 L : List Bk
 nx : Nat
 gv : Nat
 mb : Nat
 es : Array MapEntry
 mc : Nat
 last : Nat
def pickF (k : Nat) : Nat := if k = 1 then 110 else if k = 2 then 111 else if k = 3 then 112 else 113
abbrev fnV (f : Nat) : Value := .func (.func f) #[] #[]
abbrev balV (k ob n oc nx gv mb last : Nat) : List Value := [fnV (pickF k), slV (some ob) n oc, .int .i64 (nx : Int), .int .i64 (gv : Int), .map (some mb), .int .u64 (last : Int)]
abbrev bE1 (m : Bm) : Ent := ⟨some m.p, cl (balV m.k m.ob m.n m.oc m.nx m.gv m.mb m.last) 120⟩
abbrev bE2 (m : Bm) : Ent := ⟨some m.ob, cl (m.L.flatMap encB ++ m.tl) 125⟩
abbrev bE3 (m : Bm) : Ent := ⟨some m.mb, .map m.es m.mc⟩
abbrev bkE (x : Bk) : Ent := ⟨some x.p, cl (brV x.b) 189⟩
def bks (L : List Bk) : Heap := L.map bkE
abbrev balH (m : Bm) : Heap := bE1 m :: bE2 m :: bE3 m :: bks m.L
structure BalIs (N : Nat) (m : Bm) (C : List Cl) : Prop where
 hn : m.L.length = m.n
 own : Own (some m.ob) m.n m.oc 5 (m.L.flatMap encB) m.tl
 mp : Mp (.int .i64) ekI evC m.es C
 k : 1 ≤ m.k ∧ m.k ≤ 4
 n : 1 ≤ m.n ∧ m.n ≤ 64
 fit : ∀ x ∈ m.L, Fit x.b ∧ x.b.last ≤ m.last ∧ x.b.gen ≤ N
 w : ∀ x ∈ m.L, 1 ≤ x.w ∧ x.w ≤ 100
 sh : ∀ x ∈ m.L, -6400 * (N : Int) ≤ x.sh ∧ x.sh ≤ 6400 * (N : Int)
 act : ∀ x ∈ m.L, -(N : Int) ≤ x.act ∧ x.act ≤ N
 nx : m.nx < m.n
 gv : m.gv ≤ N
 cl : C.length ≤ N
 ky : ∀ c ∈ C, 1 ≤ c.1 ∧ c.1 ≤ m.gv
 bk : ∀ c ∈ C, 0 ≤ c.2.1 ∧ c.2.1 < m.n
 gn : ∀ c ∈ C, 0 ≤ c.2.2 ∧ ∀ x, m.L[c.2.1.toNat]? = some x → c.2.2 ≤ x.b.gen
 last : m.last ≤ 18446744073709551614
theorem split_at {α : Type} {L : List α} {i : Nat} {x : α} (hx : L[i]? = some x) : ∃ A B, L = A ++ x :: B ∧ A.length = i := by
 obtain ⟨h, rfl⟩ := List.getElem?_eq_some_iff.1 hx
 exact ⟨L.take i, L.drop (i + 1), by rw [← List.drop_eq_getElem_cons h, List.take_append_drop], by rw [List.length_take]; omega⟩
theorem set_at {α : Type} {A B : List α} {x y : α} : (A ++ x :: B).set A.length y = A ++ y :: B := by simp
theorem Spec.bk {f : FuncId} {args : List Value} {L : List Bk} {i : Nat} {x : Bk} (hx : L[i]? = some x) {Q : Value → Br → Prop}
  (h : Spec Tryz.prog f args [bkE x] (fun r H' => ∃ b', H' = [bkE { x with b := b' }] ∧ Q r b')) : Spec Tryz.prog f args (bks L) (fun r H' => ∃ b', H' = bks (L.set i { x with b := b' }) ∧ Q r b') := by
 obtain ⟨A, B, rfl, rfl⟩ := split_at hx
 refine Spec.re (((h.fr (bks A ++ bks B)).perm ?_).mono ?_)
 ·unfold bks
  rw [List.map_append, List.map_cons]
  exact List.perm_middle
 ·rintro r H' ⟨H1, ⟨b', rfl, hq⟩, rfl⟩
  refine ⟨bks ((A ++ x :: B).set A.length { x with b := b' }), ?_, b', rfl, hq⟩
  rw [set_at]
  unfold bks
  rw [List.map_append, List.map_cons]
  show (bkE { x with b := b' } :: (List.map bkE A ++ List.map bkE B)).Perm _
  exact List.perm_middle.symm
theorem bks_set {L : List Bk} {i : Nat} {x : Bk} (hx : L[i]? = some x) {y : Bk} (h1 : y.p = x.p) (h2 : y.b = x.b) : bks (L.set i y) = bks L := by
 obtain ⟨A, B, rfl, rfl⟩ := split_at hx
 rw [set_at]
 unfold bks
 rw [List.map_append, List.map_append, List.map_cons, List.map_cons]
 show _ ++ bkE y :: _ = _
 unfold bkE
 rw [h1, h2]
theorem set_same {α : Type} {L : List α} {i : Nat} {x : α} (hx : L[i]? = some x) : L.set i x = L := by
 obtain ⟨A, B, rfl, rfl⟩ := split_at hx
 exact set_at
def okAt (L : List Bk) (now : Nat) (i : Nat) : Bool := match L[i]? with
 | some x => x.up && decide (rdB x.b now)
 | none => false
def candK (L : List Bk) (now : Nat) (k : Nat) : List Int := ((List.range k).filter (okAt L now)).map (fun i : Nat => (i : Int))
abbrev cand (L : List Bk) (now : Nat) : List Int := candK L now L.length
theorem candK_next {L : List Bk} {now k : Nat} : candK L now (k + 1) = candK L now k ++ (if okAt L now k = true then [(k : Int)] else []) := by
 unfold candK
 rw [List.range_succ, List.filter_append, List.map_append]
 by_cases h : okAt L now k = true <;> simp [h]
theorem candK_len (L : List Bk) (now k : Nat) : (candK L now k).length ≤ k := by
 unfold candK
 rw [List.length_map]
 exact Nat.le_trans (List.length_filter_le _ _) (by simp)
theorem cand_mem {L : List Bk} {now : Nat} {a : Int} (h : a ∈ cand L now) : ∃ (i : Nat) (x : Bk), a = (i : Int) ∧ L[i]? = some x ∧ x.up = true ∧ rdB x.b now := by
 obtain ⟨i, hi, rfl⟩ := List.mem_map.1 h
 obtain ⟨h1, h2⟩ := List.mem_filter.1 hi
 unfold okAt at h2
 split at h2
 ·rename_i x hx
  rw [Bool.and_eq_true, decide_eq_true_eq] at h2
  exact ⟨i, x, rfl, hx, h2.1, h2.2⟩
 ·cases h2
def zeroK : Bk := ⟨0, 0, 0, false, 0, zeroB⟩
def gB (L : List Bk) (i : Int) : Bk := (L[i.toNat]?).getD zeroK
theorem gB_at {L : List Bk} {i : Nat} {x : Bk} (h : L[i]? = some x) : gB L (i : Int) = x := by
 unfold gB; rw [Int.toNat_natCast, h]; rfl
def turnI (nx : Nat) (l : List Int) : Int := (l[(max 0 (idxF (fun i => decide ((nx : Int) ≤ i)) l)).toNat]?).getD 0
def turnN (n : Nat) (i : Int) : Nat := if i + 1 = n then 0 else (i + 1).toNat
def leastQ (L : List Bk) (a b : Int) : Int := cmpI ((gB L a).act * (gB L b).w) ((gB L b).act * (gB L a).w)
def leastI (L : List Bk) (l : List Int) : Int := sel (fun a b => decide (leastQ L a b < 0)) l
def bump1 (L : List Bk) (i : Int) : List Bk := L.set i.toNat { gB L i with sh := (gB L i).sh + (gB L i).w }
def bump (L : List Bk) (l : List Int) : List Bk := l.foldl bump1 L
def sumW (L : List Bk) (l : List Int) : Int := l.foldl (fun s i => s + (gB L i).w) 0
def weiQ (L : List Bk) (a b : Int) : Int := orL [cmpI (gB L a).sh (gB L b).sh, cmpI b a]
def weiI (L : List Bk) (l : List Int) : Int := sel (fun a b => decide (0 < weiQ L a b)) l
def drop1 (L : List Bk) (i : Int) (s : Int) : List Bk := L.set i.toNat { gB L i with sh := (gB L i).sh - s }
def hashQ (key : ByteArray) (a b : Int) : Int := orL [cmpI (sco key a : Nat) (sco key b : Nat), cmpI b a]
def hashI (key : ByteArray) (l : List Int) : Int := sel (fun a b => decide (0 < hashQ key a b)) l
def pickI (k : Nat) (L : List Bk) (nx : Nat) (key : ByteArray) (l : List Int) : Int :=
 if k = 1 then turnI nx l else if k = 2 then leastI L l else if k = 3 then weiI (bump L l) l else hashI key l
def pickL (k : Nat) (L : List Bk) (l : List Int) : List Bk := if k = 3 then drop1 (bump L l) (weiI (bump L l) l) (sumW L l) else L
def pickN (k : Nat) (n nx : Nat) (l : List Int) : Nat := if k = 1 then turnN n (turnI nx l) else nx
theorem bump1_at {L : List Bk} {i : Nat} {x : Bk} (h : L[i]? = some x) : bump1 L (i : Int) = L.set i { x with sh := x.sh + x.w } := by
 unfold bump1; rw [gB_at h, Int.toNat_natCast]
theorem bump1_len (L : List Bk) (a : Int) : (bump1 L a).length = L.length := List.length_set
theorem bump_len (l : List Int) : ∀ L : List Bk, (bump L l).length = L.length := by
 induction l with
 | nil => intro L; rfl
 | cons a r ih => intro L; exact (ih (bump1 L a)).trans (bump1_len L a)
theorem bump_next {L : List Bk} {l : List Int} {k : Nat} {a : Int} (h : l[k]? = some a) : bump L (l.take (k + 1)) = bump1 (bump L (l.take k)) a := by
 unfold bump
 rw [take_next h, List.foldl_append, List.foldl_cons, List.foldl_nil]
theorem sumW_next {L : List Bk} {l : List Int} {k : Nat} {a : Int} (h : l[k]? = some a) : sumW L (l.take (k + 1)) = sumW L (l.take k) + (gB L a).w := by
 unfold sumW
 rw [take_next h, List.foldl_append, List.foldl_cons, List.foldl_nil]
theorem bump1_get {L : List Bk} {a : Int} {i : Nat} {x : Bk} (h : (bump1 L a)[i]? = some x) : ∃ y, L[i]? = some y ∧ x = { y with sh := x.sh } ∧ (x.sh = y.sh ∨ x.sh = y.sh + y.w) := by
 unfold bump1 at h
 rw [List.getElem?_set] at h
 split at h
 ·rename_i e
  split at h
  ·rename_i hl
   have hy : L[i]? = some L[i] := List.getElem?_eq_getElem (by omega)
   have hg : gB L a = L[i] := by unfold gB; rw [e, hy]; rfl
   rw [hg] at h
   refine ⟨L[i], hy, ?_, .inr ?_⟩ <;> (cases h; rfl)
  ·cases h
 ·exact ⟨x, h, rfl, .inl rfl⟩
theorem bump_get (l : List Int) : ∀ {L : List Bk} {i : Nat} {x : Bk}, (∀ y ∈ L, 1 ≤ y.w ∧ y.w ≤ 100) → (bump L l)[i]? = some x → ∃ y, L[i]? = some y ∧ x = { y with sh := x.sh } ∧ y.sh ≤ x.sh ∧ x.sh ≤ y.sh + 100 * (l.length : Int) := by
 induction l with
 | nil => intro L i x _ h; exact ⟨x, h, rfl, Int.le_refl _, by simp⟩
 | cons a r ih =>
  intro L i x hw h
  have hw1 : ∀ y ∈ bump1 L a, 1 ≤ y.w ∧ y.w ≤ 100 := fun y hy => by
   obtain ⟨j, hj⟩ := List.mem_iff_getElem?.1 hy
   obtain ⟨z, hz, e, _⟩ := bump1_get hj
   rw [e]; exact hw z (List.mem_of_getElem? hz)
  obtain ⟨y1, h1, e1, b1, b2⟩ := ih hw1 h
  obtain ⟨y, hy, e2, b3⟩ := bump1_get h1
  have hwy := hw y (List.mem_of_getElem? hy)
  refine ⟨y, hy, by rw [e1, e2], ?_, ?_⟩
  ·rcases b3 with b3 | b3 <;> omega
  ·rw [List.length_cons]; rcases b3 with b3 | b3 <;> omega
theorem sumW_in (L : List Bk) (hw : ∀ y ∈ L, 1 ≤ y.w ∧ y.w ≤ 100) : ∀ (l : List Int), (∀ a ∈ l, ∃ (i : Nat) (x : Bk), a = (i : Int) ∧ L[i]? = some x) → 0 ≤ sumW L l ∧ sumW L l ≤ 100 * (l.length : Int) := by
 have key : ∀ (l : List Int) (s : Int), (∀ a ∈ l, ∃ (i : Nat) (x : Bk), a = (i : Int) ∧ L[i]? = some x) → s ≤ l.foldl (fun s i => s + (gB L i).w) s ∧ l.foldl (fun s i => s + (gB L i).w) s ≤ s + 100 * (l.length : Int) := by
  intro l
  induction l with
  | nil => intro s _; simp
  | cons a r ih =>
   intro s h
   obtain ⟨i, x, rfl, hx⟩ := h a (by simp)
   have hwx := hw x (List.mem_of_getElem? hx)
   have := ih (s + (gB L (i : Int)).w) (fun b hb => h b (by simp [hb]))
   rw [gB_at hx] at this
   rw [List.foldl_cons, List.length_cons, gB_at hx]
   omega
 intro l h
 have := key l 0 h
 unfold sumW
 omega
theorem idxF_in (p : Int → Bool) : ∀ l : List Int, -1 ≤ idxF p l ∧ idxF p l < l.length
 | [] => by simp [idxF]
 | a :: r => by
  have := idxF_in p r
  unfold idxF
  rw [List.length_cons]
  split
  ·omega
  ·split <;> omega
theorem own_lit (b : Nat) (l : List Int) (h : l.length ≤ 1000) : Own (some b) l.length l.length 1 (ivs l) [] := ⟨by rw [ivs_len]; omega, by rw [ivs_len]; simp, Nat.le_refl _, by omega, fun e => by cases e⟩
theorem own_L {ob n c : Nat} {L L2 : List Bk} {tl : List Value} (h : Own (some ob) n c 5 (L.flatMap encB) tl) (hl : L2.length = L.length) : Own (some ob) n c 5 (L2.flatMap encB) tl := by
 have h1 := h.len
 have h2 := h.cap
 rw [fm_length encB5] at h1 h2
 exact ⟨by rw [fm_length encB5, hl]; exact h1, by rw [fm_length encB5, hl]; exact h2, h.le, h.big, fun e => by cases e⟩
theorem mul_in {a w : Int} (h1 : -10000 ≤ a) (h2 : a ≤ 10000) (h3 : 1 ≤ w) (h4 : w ≤ 100) : -1000000 ≤ a * w ∧ a * w ≤ 1000000 := by
 have e1 : a * w ≤ 10000 * w := Int.mul_le_mul_of_nonneg_right h2 (by omega)
 have e2 : -10000 * w ≤ a * w := Int.mul_le_mul_of_nonneg_right h1 (by omega)
 omega
theorem score_ok (s : ByteArray) (hs : s.size ≤ 1000) (i : Int) : Spec Tryz.prog 156 [.string s, .int .i64 i] [] (fun r H' => r = .int .u32 (sco s i : Nat) ∧ H' = []) := by
 refine Spec.of (E := [(0, .string s), (1, .int .i64 i)]) Tryz.func156 rfl (by kernel_rfl) Tryz.ntmps156 rfl rfl (fun w => ?_)
 refine WCr (WLa Z (WL_nil (WQ_code (WCr (WLa Z (WL_nil (WQ_code (WC_seq (WCr (WLa Z (WLv Z (R_lenStr Z Tryz.underlying9 Z) ?_)))))))))))
 refine WLa Z (WL_nil (WQ_code (WC_block (WC_loopF (G := ScW) [5, 6, 9, 10, 11, 12, 13, 14, 15, 16, 17, 18, 19] (fun y => y.k ≤ s.size ∧ y.x = fld ((byt s).take y.k)) (fun y => [(9, .int .i64 (y.k : Int)), (5, .int .u32 (y.x : Int))]) (fun y => []) (fun y => s.size - y.k) (⟨0, 2166136261⟩) (⟨Nat.zero_le _, Z⟩) leZ pqZ ?_))))
 rintro y ⟨hk, hx⟩
 have hxl : y.x < 4294967296 := by rw [hx]; exact fld_lt _
 refine WCr (WLa Z (WL_nil (WQ_code (WC_seq ?_))))
 refine WC_dec Z (fun c1 => ?_) (fun c1 => ?_)
 ·refine WC_skip (WQ_code (WC_seq (WC_block (WCr (WLa Z (WLa Z (WL_nil (WQ_code (WC_region ?_)))))))))
  obtain ⟨b, hb⟩ := getE (T := byt s) (i := y.k) (by rw [byt_len]; omega)
  have hbl : b.toNat < 256 := b.toNat_lt
  refine WLa Z (WLa Z (WLa Z (WLv Z (R_indexStr Z Tryz.underlying9 Z Z hb) ?_)))
  refine WLv Z (R_conv (r := ((b.toNat : Nat) : Int)) Z Tryz.underlying5 Tryz.underlying26 Z (IntWalk.u32_in _ (by omega))) ?_
  refine WLv Z (R_xorR (r := ((y.x ^^^ b.toNat : Nat) : Int)) Z Z Z (xor32 hxl (by omega))) ?_
  refine WLv Z (R_mulR (r := ((stp y.x b.toNat : Nat) : Int)) Z Z Z (by rw [IntKind.wrap_u32, stp]; omega)) ?_
  refine WLa Z (WL_nil (WQ_code (WC_region (WLv Z (R_add Z Z Z (by omega)) ?_))))
  refine WLa Z (WL_nil ?_)
  refine WQ_nextF (⟨y.k + 1, stp y.x b.toNat⟩) (⟨by dsimp only; omega, by dsimp only; rw [fld_next hb, ← hx]⟩) (by dsimp only; omega) leZ (psZ) Z pqZ
 ·have hxf : y.x = fld (byt s) := by rw [hx, List.take_of_length_le (by rw [byt_len]; omega)]
  have hib := ib_lt i
  refine WC_exit (WQ_code (WCr (WLa Z (WLa Z (WLv Z (R_conv (r := ((ib i : Nat) : Int)) Z Tryz.underlying3 Tryz.underlying5 Z (by rw [IntKind.wrap_u8, ib]; omega)) ?_)))))
  refine WLv Z (R_conv (r := ((ib i : Nat) : Int)) Z Tryz.underlying5 Tryz.underlying26 Z (IntWalk.u32_in _ (by omega))) ?_
  refine WLv Z (R_xorR (r := ((y.x ^^^ ib i : Nat) : Int)) Z Z Z (xor32 hxl (by omega))) ?_
  refine WLv Z (R_mulR (r := ((stp y.x (ib i) : Nat) : Int)) Z Z Z (by rw [IntKind.wrap_u32, stp]; omega)) ?_
  refine WLa Z (WL_nil (WQ_code (WCr ?_)))
  have hz1 := stp_lt y.x (ib i)
  have hz3 := mix_lt (stp y.x (ib i))
  refine WLa Z (WLa Z (WLv Z (R_shrR (r := ((stp y.x (ib i) / 65536 : Nat) : Int)) Z Z Z (by omega) (shrN (s := 16) (b := 32) (by decide))) ?_))
  refine WLv Z (R_xorR (r := (((stp y.x (ib i) ^^^ stp y.x (ib i) / 65536) : Nat) : Int)) Z Z Z (xor32 hz1 (by omega))) ?_
  refine WLa Z (WL_nil (WQ_code (WCr (WLa Z (WLv Z (R_mulR (r := ((mix (stp y.x (ib i)) : Nat) : Int)) Z Z Z (by rw [IntKind.wrap_u32, mix]; omega)) ?_)))))
  refine WLa Z (WL_nil (WQ_code (WCr (WLa Z (WLa Z (WLv Z (R_shrR (r := ((mix (stp y.x (ib i)) / 8192 : Nat) : Int)) Z Z Z (by omega) (shrN (s := 13) (b := 32) (by decide))) ?_))))))
  refine WLv Z (R_xorR (r := ((mix (stp y.x (ib i)) ^^^ mix (stp y.x (ib i)) / 8192 : Nat) : Int)) Z Z Z (xor32 hz3 (by omega))) ?_
  refine WLa Z (WL_nil (WQ_code (WC_ret ?_)))
  refine WQ1 Z (by
    exact ⟨by rw [hxf]; try rfl, rfl⟩) pqZ
theorem bt1_ok (m : Bm) (bc : Nat) (a : Int) : Spec Tryz.prog 150 [.int .i64 a, ptrB bc] [⟨some bc, cl [ptrB m.p] 55⟩, bE1 m] (fun r H' => r = .bool (decide ((m.nx : Int) ≤ a)) ∧ H' = [⟨some bc, cl [ptrB m.p] 55⟩, bE1 m]) := by
 refine Spec.of (E := [(0, .int .i64 a), (1, ptrB bc)]) Tryz.func150 rfl (by kernel_rfl) Tryz.ntmps150 rfl rfl (fun w => ?_)
 refine WCr (WLa Z (WL_nil (WQ_code (WCr (WLa Z (WLl Z sc55 mmY Z (WLa Z (WLf Z fa120_2 (WLl Z sc3 mmY Z (WLa Z (WLa Z (WL_nil (WQ_code (WC_ret ?_))))))))))))))
 refine WQ1 Z (by
   exact ⟨rfl, rfl⟩) pqY
theorem bl1_ok (m : Bm) (hm : m.L.length = m.n) (bc a b : Nat) (x y : Bk) (hx : m.L[a]? = some x) (hy : m.L[b]? = some y) (hxa : -10000 ≤ x.act ∧ x.act ≤ 10000) (hya : -10000 ≤ y.act ∧ y.act ≤ 10000) (hxw : 1 ≤ x.w ∧ x.w ≤ 100) (hyw : 1 ≤ y.w ∧ y.w ≤ 100) :
  Spec Tryz.prog 152 [.int .i64 (a : Int), .int .i64 (b : Int), ptrB bc] [⟨some bc, cl [ptrB m.p] 55⟩, bE1 m, bE2 m] (fun r H' => r = .int .i64 (cmpI (x.act * y.w) (y.act * x.w)) ∧ H' = [⟨some bc, cl [ptrB m.p] 55⟩, bE1 m, bE2 m]) := by
 have ha := (List.getElem?_eq_some_iff.1 hx).1
 have hb := (List.getElem?_eq_some_iff.1 hy).1
 have hm1 := mul_in hxa.1 hxa.2 hyw.1 hyw.2
 have hm2 := mul_in hya.1 hya.2 hxw.1 hxw.2
 refine Spec.of (E := [(0, .int .i64 (a : Int)), (1, .int .i64 (b : Int)), (2, ptrB bc)]) Tryz.func152 rfl (by kernel_rfl) Tryz.ntmps152 rfl rfl (fun w => ?_)
 refine WCr (WLa Z (WL_nil (WQ_code (WC_seq (WC_drawB _ [(0, .q), (1, .q), (2, .q), (3, .q), (4, .q), (5, .q), (6, .q), (7, .q), (8, .q), (9, .q), (10, .q), (11, .q), (12, .q), (13, .q), (14, .b [15]), (15, .b []), (16, .n []), (17, .n [])] followsMixed Z Z (by kernel_rfl) .all ?_)))))
 refine WB_val Z Z Z Z (R_load Z sc55 Z mmY Z) ?_
 refine WB_val Z Z Z Z (R_nilCheck Z Z) ?_
 refine WB_val Z Z Z Z (R_fieldAddr Z fa120_1 Z) ?_
 refine WB_val Z Z Z Z (R_load Z sc118 Z mmY Z) ?_
 refine WB_val Z Z Z Z (R_move Z Z) ?_
 refine WB_val Z Z Z Z (R_indexAddrN Z Tryz.underlying118 Tryz.sizeOf125 Z Z (by omega)) ?_
 refine WB_val Z Z Z Z (R_loadA (vs := encB x) Z ag125 Z mmY Z (fm_at0 encB5 hx (j := 0) (vs := encB x) (fun j v h => by rw [Nat.zero_add]; exact h) (Nat.le_refl _))) ?_
 refine WB_val Z Z Z Z (R_load Z sc55 Z mmY Z) ?_
 refine WB_val Z Z Z Z (R_nilCheck Z Z) ?_
 refine WB_val Z Z Z Z (R_fieldAddr Z fa120_1 Z) ?_
 refine WB_val Z Z Z Z (R_load Z sc118 Z mmY Z) ?_
 refine WB_val Z Z Z Z (R_move Z Z) ?_
 refine WB_val Z Z Z Z (R_indexAddrN Z Tryz.underlying118 Tryz.sizeOf125 Z Z (by omega)) ?_
 refine WB_val Z Z Z Z (R_loadA (vs := encB y) Z ag125 Z mmY Z (fm_at0 encB5 hy (j := 0) (vs := encB y) (fun j v h => by rw [Nat.zero_add]; exact h) (Nat.le_refl _))) ?_
 refine WB_birth Z Z Z Z (.cons Z Z (B_alloc Z zv125) .nil) (B_alloc Z zv125) (fun b1 => ?_)
 refine WB_birth Z Z Z Z .nil (B_alloc Z zv125) (fun b2 => ?_)
 refine WB_do0 Z Z Z .nil (fun _ => D_store (vs := [_, _, _, _, _]) Z Tryz.sizeOf125 Z Z Z Z Z plY (nb Z)) ?_
 rintro _ _ rfl
 refine ⟨⟨_, pqY⟩, ?_⟩
 refine WB_do0 Z Z Z .nil (fun _ => D_store (vs := [_, _, _, _, _]) Z Tryz.sizeOf125 Z Z Z Z Z plY (nb Z)) ?_
 rintro _ _ rfl
 refine ⟨⟨_, pqY⟩, ?_⟩
 refine WB_nil (WQ_code (WCr (WLf Z fa125_2 (WLl Z sc3 mmY Z (WLf Z fa125_0 (WLl Z sc3 mmY Z (WLv Z (R_mul Z Z Z (by omega)) ?_)))))))
 refine WLf Z fa125_2 (WLl Z sc3 mmY Z (WLf Z fa125_0 (WLl Z sc3 mmY Z (WLv Z (R_mul Z Z Z (by omega)) ?_))))
 refine WLq Z (cmpi_ok _ _) Z pqY ?_
 refine WLa Z (WL_nil (WQ_code (WC_ret ?_)))
 refine WQ1 Z (by
   exact ⟨rfl, rfl⟩) pqY
theorem bw1_ok (m : Bm) (hm : m.L.length = m.n) (bc a b : Nat) (x y : Bk) (hx : m.L[a]? = some x) (hy : m.L[b]? = some y) :
  Spec Tryz.prog 153 [.int .i64 (a : Int), .int .i64 (b : Int), ptrB bc] [⟨some bc, cl [ptrB m.p] 55⟩, bE1 m, bE2 m] (fun r H' => r = .int .i64 (orL [cmpI x.sh y.sh, cmpI (b : Int) (a : Int)]) ∧ H' = [⟨some bc, cl [ptrB m.p] 55⟩, bE1 m, bE2 m]) := by
 have ha := (List.getElem?_eq_some_iff.1 hx).1
 have hb := (List.getElem?_eq_some_iff.1 hy).1
 refine Spec.of (E := [(0, .int .i64 (a : Int)), (1, .int .i64 (b : Int)), (2, ptrB bc)]) Tryz.func153 rfl (by kernel_rfl) Tryz.ntmps153 rfl rfl (fun w => ?_)
 refine WCr (WLa Z (WL_nil (WQ_code (WC_seq (WC_draw _ [(0, true), (1, true), (2, true), (3, true), (4, true), (5, true), (6, true), (7, true), (8, true), (9, true), (10, true), (11, true), (12, true), (13, true), (14, true), (15, true), (16, true), (17, true), (18, true), (19, true), (20, false), (21, false), (22, true)] followsMixed Z Z (by kernel_rfl) .all ?_)))))
 refine WMl Z sc55 mmY Z (WMa Z (WMf Z fa120_1 (WMl Z sc118 mmY Z (WMa Z (WMv Z (R_indexAddrN Z Tryz.underlying118 Tryz.sizeOf125 Z Z (by omega)) ?_)))))
 refine WMf Z fa125_1 (WMv Z (R_load (v := .int .i64 x.sh) Z sc3 Z mmY (fm_get0 encB5 hx (j := 1) (by omega))) ?_)
 refine WMl Z sc55 mmY Z (WMa Z (WMf Z fa120_1 (WMl Z sc118 mmY Z (WMa Z (WMv Z (R_indexAddrN Z Tryz.underlying118 Tryz.sizeOf125 Z Z (by omega)) ?_)))))
 refine WMf Z fa125_1 (WMv Z (R_load (v := .int .i64 y.sh) Z sc3 Z mmY (fm_get0 encB5 hy (j := 1) (by omega))) ?_)
 refine WM_call Z (Spec.quiet (cmpi_ok _ _)) Z Z Z Z Z Z Z pqY ?_
 refine WMa Z (WMa Z (WM_call Z (Spec.quiet (cmpi_ok _ _)) Z Z Z Z Z Z Z pqY ?_))
 refine WMd Z (D_buildSlice Z si23 Z Z Z) ?_
 rintro _ _ ⟨b1, rfl, rfl⟩
 refine ⟨⟨_, pqY⟩, ?_⟩
 refine WMd Z (D_call (cor_ok [cmpI x.sh y.sh, cmpI (b : Int) (a : Int)] (nb Z) _ _ [] (own_lit _ _ (nb Z))) Z Z Z Z pqY) ?_
 rintro _ _ ⟨_, ⟨rfl, rfl⟩, rfl⟩
 refine ⟨⟨_, pqY⟩, ?_⟩
 refine WMa Z (WM_nil (WQ_code (WC_ret ?_)))
 refine WQ1 Z (by
   exact ⟨rfl, rfl⟩) pqY
theorem bh1_ok (key : ByteArray) (hk : key.size ≤ 1000) (bc : Nat) (a b : Int) :
  Spec Tryz.prog 154 [.int .i64 a, .int .i64 b, ptrB bc] [⟨some bc, cl [.string key] 9⟩] (fun r H' => r = .int .i64 (orL [cmpI (sco key a : Nat) (sco key b : Nat), cmpI b a]) ∧ H' = [⟨some bc, cl [.string key] 9⟩]) := by
 refine Spec.of (E := [(0, .int .i64 a), (1, .int .i64 b), (2, ptrB bc)]) Tryz.func154 rfl (by kernel_rfl) Tryz.ntmps154 rfl rfl (fun w => ?_)
 refine WCr (WLa Z (WL_nil (WQ_code (WC_seq (WC_draw _ [(0, true), (1, true), (2, true), (3, true), (4, true), (5, true), (6, true), (7, true), (8, true), (9, true), (10, false), (11, false), (12, true)] followsMixed Z Z (by kernel_rfl) .all ?_)))))
 refine WMl Z sc9 mmY Z (WMa Z (WM_call Z (Spec.quiet (score_ok key hk _)) Z Z Z Z Z Z Z pqY ?_))
 refine WMl Z sc9 mmY Z (WMa Z (WM_call Z (Spec.quiet (score_ok key hk _)) Z Z Z Z Z Z Z pqY ?_))
 refine WM_call Z (Spec.quiet (cmpu_ok _ _)) Z Z Z Z Z Z Z pqY ?_
 refine WMa Z (WMa Z (WM_call Z (Spec.quiet (cmpi_ok _ _)) Z Z Z Z Z Z Z pqY ?_))
 refine WMd Z (D_buildSlice Z si23 Z Z Z) ?_
 rintro _ _ ⟨b1, rfl, rfl⟩
 refine ⟨⟨_, pqY⟩, ?_⟩
 refine WMd Z (D_call (cor_ok [cmpI (sco key a : Nat) (sco key b : Nat), cmpI b a] (nb Z) _ _ [] (own_lit _ _ (nb Z))) Z Z Z Z pqY) ?_
 rintro _ _ ⟨_, ⟨rfl, rfl⟩, rfl⟩
 refine ⟨⟨_, pqY⟩, ?_⟩
 refine WMa Z (WM_nil (WQ_code (WC_ret ?_)))
 refine WQ1 Z (by
   exact ⟨rfl, rfl⟩) pqY
theorem bturns_ok (m : Bm) (hm : m.L.length = m.n) (hn : m.n ≤ 64) (l : List Int) (o : Option Nat) (c : Nat) (tl : List Value) (own : Own o l.length c 1 (ivs l) tl) (hl : 1 ≤ l.length) (hb : l.length ≤ 64) (hin : ∀ a ∈ l, ∃ (i : Nat) (x : Bk), a = (i : Int) ∧ m.L[i]? = some x) (key : ByteArray) :
  Spec Tryz.prog 110 [ptrB m.p, slV o l.length c, .string key] [bE1 m, bE2 m, ⟨o, cl (ivs l ++ tl) 3⟩] (fun r H' => ∃ nx', nx' = turnN m.n (turnI m.nx l) ∧ r = .int .i64 (turnI m.nx l) ∧ H' = [bE1 { m with nx := nx' }, bE2 m]) := by
 have hj1 := idxF_in (fun i => decide ((m.nx : Int) ≤ i)) l
 obtain ⟨j, hj⟩ := Int.eq_ofNat_of_zero_le (show 0 ≤ max 0 (idxF (fun i => decide ((m.nx : Int) ≤ i)) l) by omega)
 obtain ⟨a9, ha9⟩ := getE (T := l) (i := j) (by omega)
 obtain ⟨i9, x9, rfl, hx9⟩ := hin a9 (List.mem_of_getElem? ha9)
 have hi9 := (List.getElem?_eq_some_iff.1 hx9).1
 have ht : turnI m.nx l = (i9 : Int) := by unfold turnI; rw [hj, Int.toNat_natCast, ha9]; rfl
 obtain ⟨wa, hwa⟩ := own.some_of (by omega)
 rw [ht]
 refine Spec.of (E := [(0, ptrB m.p), (1, slV o l.length c), (2, .string key)]) Tryz.func110 rfl (by kernel_rfl) Tryz.ntmps110 rfl rfl (fun w => ?_)
 refine WCr (WLd Z (D_box (cs := [_]) Z Z Z) ?_)
 rintro _ _ ⟨b1, rfl, rfl⟩
 refine WLa Z (WL_nil (WQ_code (WCr (WLa Z (WLv Z (R_makeFunc Z Z Z) ?_)))))
 refine WLq Z (idxf_ok l o c tl own 150 [ptrB b1] [⟨some b1, cl [ptrB m.p] 55⟩, bE1 m] (fun i => decide ((m.nx : Int) ≤ i)) (fun v hv => (bt1_ok m b1 v).mono fun r H2 ⟨h1, h2⟩ => ⟨h1, h2.symm⟩) (by omega)) Z pqY ?_
 refine WLa Z (WL_nil (WQ_code (WCr (WLa Z (WLa Z (WLv Z (R_maxR (r := ((j : Nat) : Int)) Z Z Z hj) ?_))))))
 refine WLv Z (R_idxO hwa Z Tryz.underlying23 Tryz.sizeOf3 Z Z (by omega)) ?_
 refine WLv Z (R_loadO (v := .int .i64 (i9 : Int)) hwa Z sc3 Z mmY (fm_get0 encI1 ha9 (j := 0) (by omega))) ?_
 refine WLa Z (WL_nil (WQ_code (WCr (WLl Z sc55 mmY Z (WLa Z (WLv Z (R_addR (r := ((i9 + 1 : Nat) : Int)) Z Z Z (by rw [wrap64_in (by omega) (by omega)]; omega)) ?_))))))
 refine WLa Z (WLf Z fa120_2 (WLs (vs := [_]) Z Tryz.sizeOf3 Z Z plY (nb Z) ?_))
 refine WL_nil (WQ_code (WC_seq (WC_seq (WC_draw _ [(0, true), (1, true), (2, true), (3, true), (4, true), (5, true), (6, true), (7, true), (8, true), (9, true)] followsMixed Z Z (by kernel_rfl) .all ?_))))
 refine WMl Z sc55 mmY Z (WMa Z (WMf Z fa120_2 (WMl Z sc3 mmY Z (WMl Z sc55 mmY Z (WMa Z (WMf Z fa120_1 (WMl Z sc118 mmY Z (WMv Z (R_len Z Tryz.underlying118 Z) ?_))))))))
 refine WMa Z (WM_nil (WQ_code ?_))
 refine WC_dec Z (fun c1 => ?_) (fun c1 => ?_)
 ·refine WC_region (WLl Z sc55 mmY Z (WLa Z (WLf Z fa120_2 (WLs (vs := [_]) Z Tryz.sizeOf3 Z Z plY (nb Z) ?_))))
  refine WL_nil (WQ_code (WCr (WLa Z (WLa Z (WL_nil (WQ_code (WC_ret ?_)))))))
  refine WQ1 Z (by
    exact ⟨0, by unfold turnN; rw [if_pos (by omega)], rfl, rfl⟩) pqY
 ·refine WC_skip (WQ_code (WCr (WLa Z (WLa Z (WL_nil (WQ_code (WC_ret ?_)))))))
  refine WQ1 Z (by
    exact ⟨i9 + 1, by unfold turnN; rw [if_neg (by omega)]; omega, rfl, rfl⟩) pqY
theorem bleast_ok (m : Bm) (N : Nat) (C : List Cl) (hm : BalIs N m C) (hN : N ≤ 10000) (l : List Int) (o : Option Nat) (c : Nat) (tl : List Value) (own : Own o l.length c 1 (ivs l) tl) (hl : 1 ≤ l.length) (hb : l.length ≤ 64) (hin : ∀ a ∈ l, ∃ (i : Nat) (x : Bk), a = (i : Int) ∧ m.L[i]? = some x) (key : ByteArray) :
  Spec Tryz.prog 111 [ptrB m.p, slV o l.length c, .string key] [bE1 m, bE2 m, ⟨o, cl (ivs l ++ tl) 3⟩] (fun r H' => r = .int .i64 (leastI m.L l) ∧ H' = [bE1 m, bE2 m]) := by
 have hf : ∀ bc, ∀ a ∈ l, ∀ b ∈ l, Spec Tryz.prog 152 (.int .i64 a :: .int .i64 b :: [ptrB bc]) [⟨some bc, cl [ptrB m.p] 55⟩, bE1 m, bE2 m] (fun r H' => r = .int .i64 (leastQ m.L a b) ∧ [⟨some bc, cl [ptrB m.p] 55⟩, bE1 m, bE2 m] = H') := fun bc a ha b hb => by
  obtain ⟨i, x, rfl, hx⟩ := hin a ha
  obtain ⟨j, y, rfl, hy⟩ := hin b hb
  have e1 := hm.act x (List.mem_of_getElem? hx)
  have e2 := hm.act y (List.mem_of_getElem? hy)
  refine (bl1_ok m hm.hn bc i j x y hx hy (by omega) (by omega) (hm.w x (List.mem_of_getElem? hx)) (hm.w y (List.mem_of_getElem? hy))).mono fun r H' ⟨h1, h2⟩ => ⟨?_, h2.symm⟩
  rw [h1, leastQ, gB_at hx, gB_at hy]
 refine Spec.of (E := [(0, ptrB m.p), (1, slV o l.length c), (2, .string key)]) Tryz.func111 rfl (by kernel_rfl) Tryz.ntmps111 rfl rfl (fun w => ?_)
 refine WCr (WLd Z (D_box (cs := [_]) Z Z Z) ?_)
 rintro _ _ ⟨b1, rfl, rfl⟩
 refine WLa Z (WL_nil (WQ_code (WCr (WLa Z (WLv Z (R_makeFunc Z Z Z) ?_)))))
 refine WLq Z (minf_ok l o c tl own 152 [ptrB b1] [⟨some b1, cl [ptrB m.p] 55⟩, bE1 m, bE2 m] (leastQ m.L) (hf b1) hl (by omega)) Z pqY ?_
 refine WLa Z (WL_nil (WQ_code (WC_ret ?_)))
 refine WQ1 Z (by
   exact ⟨rfl, rfl⟩) pqY
theorem bwei_ok (m : Bm) (N : Nat) (C : List Cl) (hm : BalIs N m C) (hN : N ≤ 10000) (l : List Int) (o : Option Nat) (c : Nat) (tl : List Value) (own : Own o l.length c 1 (ivs l) tl) (hl : 1 ≤ l.length) (hb : l.length ≤ 64) (hin : ∀ a ∈ l, ∃ (i : Nat) (x : Bk), a = (i : Int) ∧ m.L[i]? = some x) (key : ByteArray) :
  Spec Tryz.prog 112 [ptrB m.p, slV o l.length c, .string key] [bE1 m, bE2 m, ⟨o, cl (ivs l ++ tl) 3⟩] (fun r H' => r = .int .i64 (weiI (bump m.L l) l) ∧ H' = [bE1 m, bE2 { m with L := drop1 (bump m.L l) (weiI (bump m.L l) l) (sumW m.L l) }]) := by
 have hf : ∀ bc, ∀ a ∈ l, ∀ b ∈ l, Spec Tryz.prog 153 (.int .i64 a :: .int .i64 b :: [ptrB bc]) [⟨some bc, cl [ptrB m.p] 55⟩, bE1 m, bE2 { m with L := bump m.L l }] (fun r H' => r = .int .i64 (weiQ (bump m.L l) a b) ∧ [⟨some bc, cl [ptrB m.p] 55⟩, bE1 m, bE2 { m with L := bump m.L l }] = H') := fun bc a ha b hb => by
  obtain ⟨i, x, rfl, hx⟩ := hin a ha
  obtain ⟨j, y, rfl, hy⟩ := hin b hb
  obtain ⟨x2, hx2⟩ := getE (T := bump m.L l) (i := i) (by rw [bump_len]; exact (List.getElem?_eq_some_iff.1 hx).1)
  obtain ⟨y2, hy2⟩ := getE (T := bump m.L l) (i := j) (by rw [bump_len]; exact (List.getElem?_eq_some_iff.1 hy).1)
  refine (bw1_ok { m with L := bump m.L l } ((bump_len l m.L).trans hm.hn) bc i j x2 y2 hx2 hy2).mono fun r H' ⟨h1, h2⟩ => ⟨?_, h2.symm⟩
  rw [h1, weiQ, gB_at hx2, gB_at hy2]
 have hnn := hm.n
 refine Spec.of (E := [(0, ptrB m.p), (1, slV o l.length c), (2, .string key)]) Tryz.func112 rfl (by kernel_rfl) Tryz.ntmps112 rfl rfl (fun w => ?_)
 refine WCr (WLd Z (D_box (cs := [_]) Z Z Z) ?_)
 rintro _ _ ⟨b1, rfl, rfl⟩
 refine WLa Z (WL_nil (WQ_code (WCr (WLa Z (WL_nil (WQ_code (WC_seq (WCr (WLa Z (WLv Z (R_len Z Tryz.underlying23 Z) ?_))))))))))
 refine WLa Z (WL_nil (WQ_code (WC_block (WC_loopF (G := Nat) [7, 9, 13, 14, 15, 16, 17, 18, 19, 20, 21, 22, 23, 24, 25, 26, 27, 28, 29, 30, 31, 32, 33, 34, 35, 36, 37, 38, 39, 40, 41, 42, 43, 44, 45, 46] (fun y => y ≤ l.length) (fun y => [(13, .int .i64 (y : Int)), (7, .int .i64 (sumW m.L (l.take y)))]) (fun y => [⟨some m.ob, cl ((bump m.L (l.take y)).flatMap encB ++ m.tl) 125⟩]) (fun y => l.length - y) (0) (Nat.zero_le _) leZ pqY ?_))))
 rintro y hk
 refine WCr (WLa Z (WL_nil (WQ_code (WC_seq ?_))))
 refine WC_dec Z (fun c1 => ?_) (fun c1 => ?_)
 ·refine WC_skip (WQ_code (WC_seq (WC_block (WCr ?_))))
  obtain ⟨a9, ha9⟩ := getE (T := l) (i := y) (by omega)
  obtain ⟨wa, hwa⟩ := own.some_of (by omega)
  obtain ⟨i9, y9, rfl, hy9⟩ := hin a9 (List.mem_of_getElem? ha9)
  have hi9 := (List.getElem?_eq_some_iff.1 hy9).1
  obtain ⟨x9, hx9⟩ := getE (T := bump m.L (l.take y)) (i := i9) (by rw [bump_len]; exact hi9)
  obtain ⟨z9, hz9, ez9, bz1, bz2⟩ := bump_get _ hm.w hx9
  have hzy : z9 = y9 := by rw [hy9] at hz9; exact (Option.some.inj hz9).symm
  have hxw : x9.w = y9.w := by rw [ez9, hzy]
  have hys := hm.sh y9 (List.mem_of_getElem? hy9)
  have hyw := hm.w y9 (List.mem_of_getElem? hy9)
  rw [List.length_take] at bz2
  have hbx : -70000000 ≤ x9.sh ∧ x9.sh ≤ 70000000 := by rw [hzy] at bz1 bz2; omega
  have hlt9 : i9 < (bump m.L (l.take y)).length := by rw [bump_len]; exact hi9
  have hx10 : (bump m.L (l.take (y + 1)))[i9]? = some { x9 with sh := x9.sh + x9.w } := by rw [bump_next ha9, bump1_at hx9, List.getElem?_set, if_pos rfl, if_pos hlt9]
  have hsw := sumW_in m.L hm.w (l.take y) (fun a ha => hin a (List.mem_of_mem_take ha))
  rw [List.length_take] at hsw
  have hsn : sumW m.L (l.take (y + 1)) = sumW m.L (l.take y) + x9.w := by rw [sumW_next ha9, gB_at hy9, hxw]
  have hi9n : i9 < m.n := by rw [← hm.hn]; exact hi9
  refine WLv Z (R_idxO hwa Z Tryz.underlying23 Tryz.sizeOf3 Z Z (by omega)) ?_
  refine WLv Z (R_loadO (v := .int .i64 (i9 : Int)) hwa Z sc3 Z mmY (fm_get0 encI1 ha9 (j := 0) (by omega))) ?_
  refine WLa Z (WL_nil (WQ_code (WC_seq (WC_drawE [⟨some m.ob, _⟩] [(0, false), (1, false), (2, false), (3, false), (4, false), (5, false), (6, false), (7, true), (8, false), (9, false), (10, false), (11, false), (12, false), (13, false), (14, false), (15, true)] [(16, true), (17, true), (18, true), (19, false)] followsMixed Z Z (by kernel_rfl) pqY ?_))))
  refine WZ_val Z Z Z Z (R_load Z sc55 Z mmY Z) ?_
  refine WZ_val Z Z Z Z (R_nilCheck Z Z) ?_
  refine WZ_val Z Z Z Z (R_fieldAddr Z fa120_1 Z) ?_
  refine WZ_val Z Z Z Z (R_load Z sc118 Z mmY Z) ?_
  refine WZ_val Z Z Z Z (R_move Z Z) ?_
  refine WZ_val Z Z Z Z (R_indexAddrN Z Tryz.underlying118 Tryz.sizeOf125 Z Z (by omega)) ?_
  refine WZ_val Z Z Z Z (R_fieldAddr Z fa125_1 Z) ?_
  refine WZ_early Z Z Z Z (R_load (v := .int .i64 x9.sh) Z sc3 Z mmY (fm_get0 encB5 hx9 (j := 1) (by omega))) ?_
  refine WZ_val Z Z Z Z (R_load Z sc55 Z mmY Z) ?_
  refine WZ_val Z Z Z Z (R_nilCheck Z Z) ?_
  refine WZ_val Z Z Z Z (R_fieldAddr Z fa120_1 Z) ?_
  refine WZ_val Z Z Z Z (R_load Z sc118 Z mmY Z) ?_
  refine WZ_val Z Z Z Z (R_move Z Z) ?_
  refine WZ_val Z Z Z Z (R_indexAddrN Z Tryz.underlying118 Tryz.sizeOf125 Z Z (by omega)) ?_
  refine WZ_val Z Z Z Z (R_fieldAddr Z fa125_0 Z) ?_
  refine WZ_early Z Z Z Z (R_load (v := .int .i64 x9.w) Z sc3 Z mmY (fm_get0 encB5 hx9 (j := 0) (by omega))) ?_
  refine WZ_rest ?_
  refine WMv Z (R_add Z Z Z (by omega)) ?_
  refine WMv Z (R_indexAddrN Z Tryz.underlying118 Tryz.sizeOf125 Z Z (by omega)) ?_
  refine WMf Z fa125_1 (WM_do0 Z Z Z (D_store (vs := [_]) Z Tryz.sizeOf3 Z Z Z Z Z plY (by exact fm_room0 encB5 hlt9 (j := 1) (by omega))) ?_)
  rintro _ _ rfl
  refine ⟨⟨_, pqY⟩, ?_⟩
  have hput := fm_put0 encB5 ({ x9 with sh := x9.sh + x9.w } : Bk) hx9 (j := 1) (vs := [.int .i64 (x9.sh + x9.w)]) (by simp) rfl (tl := m.tl)
  rw [hput, ← bump1_at hx9, ← bump_next ha9]
  refine WM_nil (WQ_code (WC_region (WLa Z (WLl Z sc55 mmY Z (WLa Z (WLf Z fa120_1 (WLl Z sc118 mmY Z (WLa Z (WLv Z (R_indexAddrN Z Tryz.underlying118 Tryz.sizeOf125 Z Z (by omega)) ?_)))))))))
  refine WLf Z fa125_0 (WLv Z (R_load (v := .int .i64 x9.w) Z sc3 Z mmY (fm_get0 encB5 hx10 (j := 0) (by omega))) ?_)
  refine WLv Z (R_add Z Z Z (by omega)) ?_
  refine WLa Z (WL_nil (WQ_code (WC_region (WLv Z (R_add Z Z Z (by omega)) ?_))))
  refine WLa Z (WL_nil ?_)
  rw [← hsn]
  refine WQ_nextF (y + 1) (by omega) (by omega) leZ (psZ) Z pqY
 ·have hkl : l.take y = l := List.take_of_length_le (by omega)
  rw [hkl]
  refine WC_exit (WQ_code (WCr (WLa Z (WLv Z (R_makeFunc Z Z Z) ?_))))
  refine WLq Z (maxf_ok l o c tl own 153 [ptrB b1] [⟨some b1, cl [ptrB m.p] 55⟩, bE1 m, bE2 { m with L := bump m.L l }] (weiQ (bump m.L l)) (hf b1) hl (by omega)) Z pqY ?_
  obtain ⟨b9, y8, hbw, hy8⟩ := hin (weiI (bump m.L l) l) (sel_mem _ (by intro e; rw [e] at hl; simp at hl))
  have hb9 := (List.getElem?_eq_some_iff.1 hy8).1
  refine WL_set (s := 49) (v := .int .i64 (b9 : Int)) Z (congrArg (Value.int .i64) hbw) ?_
  refine WLa Z (WL_nil (WQ_code (WCr (WLl Z sc55 mmY Z (WLa Z (WLf Z fa120_1 (WLl Z sc118 mmY Z (WLa Z ?_))))))))
  have hzl : b9 < (bump m.L l).length := by rw [bump_len]; exact hb9
  obtain ⟨z9, hz9⟩ := getE (T := bump m.L l) (i := b9) hzl
  obtain ⟨z8, hz8, ez8, bz1, bz2⟩ := bump_get _ hm.w hz9
  have hys := hm.sh z8 (List.mem_of_getElem? hz8)
  have hb9n : b9 < m.n := by rw [← hm.hn]; exact hb9
  have hsw := sumW_in m.L hm.w l hin
  refine WLv Z (R_indexAddrN Z Tryz.underlying118 Tryz.sizeOf125 Z Z (by omega)) ?_
  refine WLf Z fa125_1 (WLv Z (R_load (v := .int .i64 z9.sh) Z sc3 Z mmY (fm_get0 encB5 hz9 (j := 1) (by omega))) ?_)
  refine WLa Z (WLv Z (R_sub Z Z Z (by omega)) ?_)
  refine WLv Z (R_indexAddrN Z Tryz.underlying118 Tryz.sizeOf125 Z Z (by omega)) ?_
  refine WLf Z fa125_1 (WLs (vs := [_]) Z Tryz.sizeOf3 Z Z plY (by exact fm_room0 encB5 hzl (j := 1) (by omega)) ?_)
  have hput := fm_put0 encB5 ({ z9 with sh := z9.sh - sumW m.L l } : Bk) hz9 (j := 1) (vs := [.int .i64 (z9.sh - sumW m.L l)]) (by simp) rfl (tl := m.tl)
  rw [hput]
  have hdr : (bump m.L l).set b9 { z9 with sh := z9.sh - sumW m.L l } = drop1 (bump m.L l) (weiI (bump m.L l) l) (sumW m.L l) := by unfold drop1; rw [hbw, gB_at hz9, Int.toNat_natCast]
  rw [hdr]
  refine WL_nil (WQ_code (WCr (WLa Z (WLa Z (WL_nil (WQ_code (WC_ret ?_)))))))
  refine WQ1 Z (by
    exact ⟨congrArg (Value.int .i64) hbw.symm, rfl⟩) pqY
theorem bhash_ok (m : Bm) (l : List Int) (o : Option Nat) (c : Nat) (tl : List Value) (own : Own o l.length c 1 (ivs l) tl) (hl : 1 ≤ l.length) (hb : l.length ≤ 64) (key : ByteArray) (hk : key.size ≤ 1000) :
  Spec Tryz.prog 113 [ptrB m.p, slV o l.length c, .string key] [bE1 m, bE2 m, ⟨o, cl (ivs l ++ tl) 3⟩] (fun r H' => r = .int .i64 (hashI key l) ∧ H' = [bE1 m, bE2 m]) := by
 have hf : ∀ bc, ∀ a ∈ l, ∀ b ∈ l, Spec Tryz.prog 154 (.int .i64 a :: .int .i64 b :: [ptrB bc]) [⟨some bc, cl [.string key] 9⟩] (fun r H' => r = .int .i64 (hashQ key a b) ∧ [⟨some bc, cl [.string key] 9⟩] = H') := fun bc a ha b hb =>
  (bh1_ok key hk bc a b).mono fun r H' ⟨h1, h2⟩ => ⟨h1, h2.symm⟩
 refine Spec.of (E := [(0, ptrB m.p), (1, slV o l.length c), (2, .string key)]) Tryz.func113 rfl (by kernel_rfl) Tryz.ntmps113 rfl rfl (fun w => ?_)
 refine WCr (WLd Z (D_box (cs := [_]) Z Z Z) ?_)
 rintro _ _ ⟨b1, rfl, rfl⟩
 refine WLa Z (WL_nil (WQ_code (WCr (WLa Z (WLv Z (R_makeFunc Z Z Z) ?_)))))
 refine WLq Z (maxf_ok l o c tl own 154 [ptrB b1] [⟨some b1, cl [.string key] 9⟩] (hashQ key) (hf b1) hl (by omega)) Z pqY ?_
 refine WLa Z (WL_nil (WQ_code (WC_ret ?_)))
 refine WQ1 Z (by
   exact ⟨rfl, rfl⟩) pqY
theorem Fit.la {b : Br} (h : Fit b) : b.opened ≤ b.last := h.tm.1
theorem may0 {b : Br} {now : Nat} (h1 : b.last ≤ now) (h2 : now ≤ 18446744073709551614) : mayE b now = 0 := by unfold mayE; rw [if_neg (by omega)]
theorem ready_at {L : List Bk} {i : Nat} {x : Bk} (hx : L[i]? = some x) (hf : Fit x.b) (now : Nat) (h1 : x.b.last ≤ now) (h2 : now ≤ 18446744073709551614) :
  Spec Tryz.prog 157 [ptrB x.p, .int .u64 (now : Int)] (bks L) (fun r H' => r = .tuple #[.bool (decide (rdB x.b now)), .int .i64 0] ∧ H' = bks L) := by
 refine (Spec.bk hx (Q := fun r b' => b' = x.b ∧ r = .tuple #[.bool (decide (rdB x.b now)), .int .i64 0]) ((bk_readyF_ok x.b hf.l hf.la now x.p (by omega)).mono ?_)).mono ?_
 ·rintro r H' ⟨s, e, hr, hH, h⟩
  rcases h with ⟨h, _⟩ | ⟨_, rfl, rfl⟩
  ·exact absurd (may0 h1 h2) h
  ·exact ⟨x.b, hH, rfl, hr⟩
 ·rintro r H' ⟨b', hH, rfl, hr⟩
  exact ⟨hr, hH.trans (congrArg bks (set_same hx))⟩
theorem allow_at {L : List Bk} {i : Nat} {x : Bk} (hx : L[i]? = some x) (hf : Fit x.b) (now : Nat) (h1 : x.b.last ≤ now) (h2 : now ≤ 18446744073709551614) (hr : rdB x.b now) :
  Spec Tryz.prog 115 [ptrB x.p, .int .u64 (now : Int)] (bks L) (fun r H' => r = .tuple #[.int .i64 (alB x.b now).gen, .int .i64 0] ∧ H' = bks (L.set i { x with b := alB x.b now })) := by
 refine (Spec.bk hx (Q := fun r b' => b' = alB x.b now ∧ r = .tuple #[.int .i64 (alB x.b now).gen, .int .i64 0]) ((bk_allow_ok x.b hf.l hf.g hf.a hf.la now x.p (by omega)).mono ?_)).mono ?_
 ·rintro r H' ⟨b', n, e, hr', hH, h⟩
  rcases h with ⟨h, _⟩ | ⟨_, h, _⟩ | ⟨_, _, rfl, rfl, rfl⟩
  ·exact absurd (may0 h1 h2) h
  ·exact absurd hr h
  ·exact ⟨_, hH, rfl, hr'⟩
 ·rintro r H' ⟨b', hH, rfl, hr⟩
  exact ⟨hr, hH⟩
def dnK (b : Br) (now : Nat) (gn : Int) (good : Bool) : Br := if gn = b.gen then dnB b now good else ⟨b.limit, b.probes, b.opn, now, b.gen, b.st, b.opened, b.failed, b.allowed, b.good⟩
theorem done_at {L : List Bk} {i : Nat} {x : Bk} (hx : L[i]? = some x) (hf : Fit x.b) (now : Nat) (h1 : x.b.last ≤ now) (h2 : now ≤ 18446744073709551614) (gn : Int) (hg : 0 ≤ gn ∧ gn ≤ x.b.gen) (good : Bool) :
  Spec Tryz.prog 68 [ptrB x.p, .int .u64 (now : Int), .int .i64 gn, .bool good] (bks L) (fun r H' => r = .int .i64 0 ∧ H' = bks (L.set i { x with b := dnK x.b now gn good })) := by
 refine (Spec.bk hx (Q := fun r b' => b' = dnK x.b now gn good ∧ r = .int .i64 0) ((bk_done_ok x.b hf.l hf.g hf.f hf.gd now x.p gn good).mono ?_)).mono ?_
 ·rintro r H' ⟨b', e, hr', hH, h⟩
  rcases h with ⟨h, _⟩ | ⟨_, h, _⟩ | ⟨_, _, h, rfl, rfl⟩ | ⟨_, h, rfl, rfl⟩
  ·exact absurd (may0 h1 h2) h
  ·omega
  ·exact ⟨_, hH, by unfold dnK; rw [if_neg (by omega)], hr'⟩
  ·exact ⟨_, hH, by unfold dnK; rw [if_pos h], hr'⟩
 ·rintro r H' ⟨b', hH, rfl, hr⟩
  exact ⟨hr, hH⟩
theorem turn_mem {nx : Nat} {l : List Int} (hl : l ≠ []) : turnI nx l ∈ l := by
 have h1 := idxF_in (fun i => decide ((nx : Int) ≤ i)) l
 have h2 : 0 < l.length := by cases l; exact absurd rfl hl; simp
 obtain ⟨a, ha⟩ := getE (T := l) (i := (max 0 (idxF (fun i => decide ((nx : Int) ≤ i)) l)).toNat) (by omega)
 unfold turnI
 rw [ha]
 exact List.mem_of_getElem? ha
theorem pickI_mem (k : Nat) (L : List Bk) (nx : Nat) (key : ByteArray) {l : List Int} (hl : l ≠ []) : pickI k L nx key l ∈ l := by
 unfold pickI
 split
 ·exact turn_mem hl
 ·split
  ·exact sel_mem _ hl
  ·split
   ·exact sel_mem _ hl
   ·exact sel_mem _ hl
theorem bks_bump1 (L : List Bk) (a : Int) : bks (bump1 L a) = bks L := by
 unfold bump1
 by_cases h : a.toNat < L.length
 ·have hx : L[a.toNat]? = some L[a.toNat] := List.getElem?_eq_getElem h
  exact bks_set hx (by unfold gB; rw [hx]; rfl) (by unfold gB; rw [hx]; rfl)
 ·rw [List.set_eq_of_length_le (by omega)]
theorem bks_bump (l : List Int) : ∀ L : List Bk, bks (bump L l) = bks L := by
 induction l with
 | nil => intro L; rfl
 | cons a r ih => intro L; exact (ih (bump1 L a)).trans (bks_bump1 L a)
theorem bks_drop1 (L : List Bk) (a s : Int) : bks (drop1 L a s) = bks L := by
 unfold drop1
 by_cases h : a.toNat < L.length
 ·have hx : L[a.toNat]? = some L[a.toNat] := List.getElem?_eq_getElem h
  exact bks_set hx (by unfold gB; rw [hx]; rfl) (by unfold gB; rw [hx]; rfl)
 ·rw [List.set_eq_of_length_le (by omega)]
theorem pickL_bks (k : Nat) (L : List Bk) (l : List Int) : bks (pickL k L l) = bks L := by
 unfold pickL
 split
 ·rw [bks_drop1, bks_bump]
 ·rfl
theorem pickL_len (k : Nat) (L : List Bk) (l : List Int) : (pickL k L l).length = L.length := by
 unfold pickL
 split
 ·unfold drop1; rw [List.length_set, bump_len]
 ·rfl
theorem pickL_get {k : Nat} {L : List Bk} {l : List Int} {i : Nat} {x : Bk} (hw : ∀ y ∈ L, 1 ≤ y.w ∧ y.w ≤ 100) (hin : ∀ a ∈ l, ∃ (i : Nat) (x : Bk), a = (i : Int) ∧ L[i]? = some x) (h : (pickL k L l)[i]? = some x) :
  ∃ y, L[i]? = some y ∧ x = { y with sh := x.sh } ∧ y.sh - 100 * (l.length : Int) ≤ x.sh ∧ x.sh ≤ y.sh + 100 * (l.length : Int) := by
 unfold pickL at h
 split at h
 ·unfold drop1 at h
  rw [List.getElem?_set] at h
  split at h
  ·rename_i e
   split at h
   ·rename_i hl
    obtain ⟨z, hz⟩ := getE (T := bump L l) (i := i) (by omega)
    obtain ⟨y, hy, e1, b1, b2⟩ := bump_get l hw hz
    have hs := sumW_in L hw l hin
    have hg : gB (bump L l) (weiI (bump L l) l) = z := by unfold gB; rw [e, hz]; rfl
    rw [hg] at h
    refine ⟨y, hy, ?_, ?_, ?_⟩
    ·cases h; rw [e1]
    ·cases h; dsimp only; omega
    ·cases h; dsimp only; omega
   ·cases h
  ·obtain ⟨y, hy, e1, b1, b2⟩ := bump_get l hw h
   exact ⟨y, hy, e1, by omega, by omega⟩
 ·exact ⟨x, h, rfl, by omega, by omega⟩
theorem choose_ok (m : Bm) (N : Nat) (C : List Cl) (hm : BalIs N m C) (hN : N ≤ 10000) (l : List Int) (o : Option Nat) (c : Nat) (tl : List Value) (own : Own o l.length c 1 (ivs l) tl) (hl : 1 ≤ l.length) (hb : l.length ≤ 64) (hin : ∀ a ∈ l, ∃ (i : Nat) (x : Bk), a = (i : Int) ∧ m.L[i]? = some x) (key : ByteArray) (hk : key.size ≤ 1000) :
  Spec Tryz.prog (pickF m.k) [ptrB m.p, slV o l.length c, .string key] [bE1 m, bE2 m, ⟨o, cl (ivs l ++ tl) 3⟩] (fun r H' => r = .int .i64 (pickI m.k m.L m.nx key l) ∧ H' = [bE1 { m with nx := pickN m.k m.n m.nx l }, bE2 { m with L := pickL m.k m.L l }]) := by
 have hk4 := hm.k
 have h4 : m.k = 1 ∨ m.k = 2 ∨ m.k = 3 ∨ m.k = 4 := by omega
 have hnn := hm.n
 rcases h4 with e | e | e | e
 ·rw [show pickF m.k = 110 by rw [e]; rfl, show pickI m.k m.L m.nx key l = turnI m.nx l by rw [e]; rfl, show pickL m.k m.L l = m.L by rw [e]; rfl, show pickN m.k m.n m.nx l = turnN m.n (turnI m.nx l) by rw [e]; rfl]
  exact (bturns_ok m hm.hn hnn.2 l o c tl own hl hb hin key).mono fun r H' ⟨nx', e1, e2, e3⟩ => by subst e1; exact ⟨e2, e3⟩
 ·rw [show pickF m.k = 111 by rw [e]; rfl, show pickI m.k m.L m.nx key l = leastI m.L l by rw [e]; rfl, show pickL m.k m.L l = m.L by rw [e]; rfl, show pickN m.k m.n m.nx l = m.nx by rw [e]; rfl]
  exact bleast_ok m N C hm hN l o c tl own hl hb hin key
 ·rw [show pickF m.k = 112 by rw [e]; rfl, show pickI m.k m.L m.nx key l = weiI (bump m.L l) l by rw [e]; rfl, show pickL m.k m.L l = drop1 (bump m.L l) (weiI (bump m.L l) l) (sumW m.L l) by rw [e]; rfl, show pickN m.k m.n m.nx l = m.nx by rw [e]; rfl]
  exact bwei_ok m N C hm hN l o c tl own hl hb hin key
 ·rw [show pickF m.k = 113 by rw [e]; rfl, show pickI m.k m.L m.nx key l = hashI key l by rw [e]; rfl, show pickL m.k m.L l = m.L by rw [e]; rfl, show pickN m.k m.n m.nx l = m.nx by rw [e]; rfl]
  exact bhash_ok m l o c tl own hl hb key hk
def mayB (m : Bm) (right : Bool) (now : Nat) : Int := if right = false then 2 else if now < m.last ∨ now = 18446744073709551615 then 3 else 0
theorem bmay_ok (m : Bm) (right : Bool) (now : Nat) : Spec Tryz.prog 67 [ptrB m.p, .bool right, .int .u64 (now : Int)] [bE1 m] (fun r H' => r = .int .i64 (mayB m right now) ∧ H' = [bE1 m]) := by
 refine Spec.of (E := [(0, ptrB m.p), (1, .bool right), (2, .int .u64 (now : Int))]) Tryz.func67 rfl (by kernel_rfl) Tryz.ntmps67 rfl rfl (fun w => ?_)
 refine WCr (WLa Z (WL_nil (WQ_code (WC_seq (WC_block (WCr (WLa Z (WLv Z (R_ptrEqNil Z Tryz.underlying55 Z) ?_))))))))
 refine WLa Z (WLa Z (WLa Z (WLf Z fa120_4 (WLl Z sc117 mmY Z (WLv Z (R_mapEqNil Z Tryz.underlying117 Z) ?_)))))
 refine WL_set (s := 15) (v := .bool false) Z (by rfl) ?_
 refine WLa Z (WLa Z (WL_nil (WQ_code (WC_F Z (WCr (WLa Z (WLa Z (WLa Z (WL_nil (WQ_code ?_))))))))))
 refine WC_if Z (fun c1 => ?_) (fun c1 => ?_)
 ·have hr : right = false := by simpa using c1
  refine WCr (WLa Z (WL_nil (WQ_code (WC_ret ?_))))
  refine WQ1 Z (by
    exact ⟨congrArg (Value.int .i64) (by unfold mayB; rw [hr]; (repeat split) <;> first | omega | simp_all), rfl⟩) pqY
 ·have hr : right = true := by simpa using c1
  refine WCr (WLa Z (WLa Z (WLa Z (WLf Z fa120_5 (WLl Z sc25 mmY Z (WLa Z (WLa Z ?_)))))))
  refine WL_splitD (s := 27) Z (fun c2 => ?_) (fun c2 => ?_)
  ·refine WLa Z (WLa Z (WLa Z (WLa Z (WL_nil (WQ_code (WC_T Z (WCr (WLa Z (WL_nil (WQ_code (WC_ret ?_)))))))))))
   refine WQ1 Z (by
     exact ⟨congrArg (Value.int .i64) (by unfold mayB; rw [hr]; (repeat split) <;> first | omega | simp_all), rfl⟩) pqY
  ·refine WLa Z (WLa Z (WLa Z (WLa Z (WL_nil (WQ_code ?_)))))
   refine WC_dec Z (fun c3 => ?_) (fun c3 => ?_)
   ·refine WCr (WLa Z (WL_nil (WQ_code (WC_ret ?_))))
    refine WQ1 Z (by
      exact ⟨congrArg (Value.int .i64) (by unfold mayB; rw [hr]; (repeat split) <;> first | omega | simp_all), rfl⟩) pqY
   ·refine WC_skip (WQ_code (WCr (WLa Z (WL_nil (WQ_code (WC_ret ?_))))))
    refine WQ1 Z (by
      exact ⟨congrArg (Value.int .i64) (by unfold mayB; rw [hr]; (repeat split) <;> first | omega | simp_all), rfl⟩) pqY
def Rd (oa : Option Addr) (x : Ent) (W : List Int) : Prop := 0 < W.length → ∃ b k cs e fr, oa = some ⟨b, k, none⟩ ∧ x = ⟨some b, .cells (List.toArray cs) e fr⟩ ∧ ∀ (i : Nat) (v : Int), W[i]? = some v → cs[k + i * 1]? = some (.int .i64 v)
theorem Rd.arg {oa : Option Addr} {x : Ent} {W : List Int} (h : Arg oa x 1 encI W) : Rd oa x W := fun hl => by
 obtain ⟨b, k, cs, e, fr, h1, h2, h3⟩ := h.some hl
 exact ⟨b, k, cs, e, fr, h1, h2, fun i v hv => by have := h3 i v hv 0 (.int .i64 v) rfl; rw [Nat.add_zero] at this; exact this⟩
theorem Rd.own {o : Option Nat} {n c e : Nat} {tl : List Value} {W : List Int} (h : Own o n c 1 (ivs W) tl) : Rd (o.map fun b => ⟨b, 0, none⟩) ⟨o, cl (ivs W ++ tl) e⟩ W := fun hl => by
 obtain ⟨b, rfl⟩ := h.some_of (by have := h.len; rw [ivs_len] at this; omega)
 exact ⟨b, 0, _, e, (0, 0), rfl, rfl, fun i v hv => fm_get0 encI1 hv (j := 0) (by omega)⟩
abbrev Vw := Int × Int × Int × Bool × Br
def vw (x : Bk) : Vw := (x.w, x.sh, x.act, x.up, x.b)
def KL : List (Int × Nat) := [(4, 113), (3, 112), (2, 111), (1, 110)]
theorem kl_in {k : Nat} (h : 1 ≤ k ∧ k ≤ 4) : ((k : Int), pickF k) ∈ KL := by
 have : k = 1 ∨ k = 2 ∨ k = 3 ∨ k = 4 := by omega
 rcases this with rfl | rfl | rfl | rfl <;> simp [KL, pickF]
theorem kl_out {k : Int} (h : k < 1 ∨ 4 < k) : k ∉ KL.map (·.1) := by
 simp [KL]; omega
theorem kinds_ok : Spec Tryz.prog 56 [] [] (fun r H' => ∃ b es c, r = .map (some b) ∧ Mp (.int .i64) ekI fnV es KL ∧ H' = [⟨some b, .map es c⟩]) := by
 have mp0 : Mp (.int .i64) ekI fnV #[] [] := Mp.empty ekI_key ekI_inj
 refine Spec.of (E := []) Tryz.func56 rfl (by kernel_rfl) Tryz.ntmps56 rfl rfl (fun w => ?_)
 refine WCr (WLa Z (WL_nil (WQ_code (WCr (WLd Z (D_makeMap Z) ?_)))))
 rintro _ _ ⟨kb, rfl, rfl⟩
 refine WL_do0 Z Z (D_mapIns (ek := ekI) (ev := fnV) (k := 1) (v := 110) Z Tryz.underlying115 Tryz.underlying22 Z Z Z plY mp0 (by decide)) ?_
 rintro _ _ ⟨es1, mc1, hM1, rfl⟩
 refine WL_do0 Z Z (D_mapIns (ek := ekI) (ev := fnV) (k := 2) (v := 111) Z Tryz.underlying115 Tryz.underlying22 Z Z Z plY hM1 (by decide)) ?_
 rintro _ _ ⟨es2, mc2, hM2, rfl⟩
 refine WL_do0 Z Z (D_mapIns (ek := ekI) (ev := fnV) (k := 3) (v := 112) Z Tryz.underlying115 Tryz.underlying22 Z Z Z plY hM2 (by decide)) ?_
 rintro _ _ ⟨es3, mc3, hM3, rfl⟩
 refine WL_do0 Z Z (D_mapIns (ek := ekI) (ev := fnV) (k := 4) (v := 113) Z Tryz.underlying115 Tryz.underlying22 Z Z Z plY hM3 (by decide)) ?_
 rintro _ _ ⟨es4, mc4, hM4, rfl⟩
 refine WLa Z (WLa Z (WL_nil (WQ_code (WC_ret ?_))))
 refine WQ1 Z (by
   exact ⟨kb, es4, mc4, rfl, hM4, rfl⟩) pqY
structure NwW where
 j : Nat
 L : List Bk
 B : Heap
 o : Option Nat
 c : Nat
 t : List Value
theorem bnew_badK (k : Int) (h : k < 1 ∨ 4 < k) (W : List Int) (oa : Option Addr) (c : Nat) (ent : Ent) (ha : Rd oa ent W) (limit : Int) (op : Nat) : Spec Tryz.prog 26 [.int .i64 k, .slice oa W.length c, .int .i64 limit, .int .u64 (op : Int)] [ent] (fun r H' => r = .tuple #[.pointer none, .int .i64 2] ∧ H' = [ent]) := by
 refine Spec.of (E := [(0, .int .i64 k), (1, .slice oa W.length c), (2, .int .i64 limit), (3, .int .u64 (op : Int))]) Tryz.func26 rfl (by kernel_rfl) Tryz.ntmps26 rfl rfl (fun w => ?_)
 refine WCr (WLa Z (WLa Z (WL_nil (WQ_code (WCr (WLc Z (kinds_ok) Z pqY ?_))))))
 rintro _ _ ⟨_, ⟨kb, ek9, kc, rfl, hMk, rfl⟩, rfl⟩
 refine WLa Z (WLv Z (R_look0 (ek := ekI) (ev := fnV) (k := k) Z Tryz.underlying115 Tryz.underlying22 Z Z mmY hMk (kl_out h) Tryz.zeroValue114) ?_)
 refine WLd Z (D_makeMap Z) ?_
 rintro _ _ ⟨mb, rfl, rfl⟩
 refine WLv Z (R_build Z zv120 pl120 Z Z) ?_
 refine WLd Z (D_box (cs := [_, _, _, _, _, _]) Z Z Z) ?_
 rintro _ _ ⟨b1, rfl, rfl⟩
 refine WLa Z (WL_nil (WQ_code (WC_seq (WCr (WLa Z (WLa Z (WLf Z fa120_0 (WLv Z (R_load (v := .nilFunc) Z sc114 Z mmY (Z)) ?_))))))))
 refine WLv Z (R_nilFuncEq Z Tryz.underlying114 Z) ?_
 refine WLa Z (WLa Z (WLa Z (WLa Z (WLa Z (WLa Z (WLa Z (WLa Z (WLa Z (WLa Z (WL_nil (WQ_code (WC_T Z (WCr (WLa Z (WLa Z (WL_nil (WQ_code (WC_ret ?_))))))))))))))))))
 refine WQ2 Z (by
   exact ⟨rfl, rfl⟩) pqY
theorem bnew_badN (k : Nat) (hk : 1 ≤ k ∧ k ≤ 4) (W : List Int) (oa : Option Addr) (c : Nat) (ent : Ent) (ha : Rd oa ent W) (limit : Int) (op : Nat) (h : W.length = 0 ∨ 64 < W.length) : Spec Tryz.prog 26 [.int .i64 (k : Int), .slice oa W.length c, .int .i64 limit, .int .u64 (op : Int)] [ent] (fun r H' => r = .tuple #[.pointer none, .int .i64 2] ∧ H' = [ent]) := by
 refine Spec.of (E := [(0, .int .i64 (k : Int)), (1, .slice oa W.length c), (2, .int .i64 limit), (3, .int .u64 (op : Int))]) Tryz.func26 rfl (by kernel_rfl) Tryz.ntmps26 rfl rfl (fun w => ?_)
 refine WCr (WLa Z (WLa Z (WL_nil (WQ_code (WCr (WLc Z (kinds_ok) Z pqY ?_))))))
 rintro _ _ ⟨_, ⟨kb, ek9, kc, rfl, hMk, rfl⟩, rfl⟩
 refine WLa Z (WLv Z (R_look (ek := ekI) (ev := fnV) (k := (k : Int)) (a := pickF k) Z Tryz.underlying115 Tryz.underlying22 Z Z mmY hMk (kl_in hk)) ?_)
 refine WLd Z (D_makeMap Z) ?_
 rintro _ _ ⟨mb, rfl, rfl⟩
 refine WLv Z (R_build Z zv120 pl120 Z Z) ?_
 refine WLd Z (D_box (cs := [_, _, _, _, _, _]) Z Z Z) ?_
 rintro _ _ ⟨b1, rfl, rfl⟩
 refine WLa Z (WL_nil (WQ_code (WC_seq (WCr (WLa Z (WLa Z (WLf Z fa120_0 (WLv Z (R_load (v := fnV (pickF k)) Z sc114 Z mmY (Z)) ?_))))))))
 refine WLv Z (R_funcEqNil Z Tryz.underlying114 Z) ?_
 refine WLa Z (WLa Z (WLv Z (R_len Z Tryz.underlying23 Z) ?_))
 refine WLa Z (WLa Z (WLa Z ?_))
 refine WL_splitD (s := 31) Z (fun c1 => ?_) (fun c1 => ?_)
 ·refine WLa Z (WLa Z (WLa Z (WLa Z (WL_nil (WQ_code (WC_T Z (WCr (WLa Z (WLa Z (WL_nil (WQ_code (WC_ret ?_))))))))))))
  refine WQ2 Z (by
    exact ⟨rfl, rfl⟩) pqY
 ·refine WLa Z (WLv Z (R_len Z Tryz.underlying23 Z) ?_)
  refine WLa Z (WLa Z (WL_nil (WQ_code (WC_dT Z (by omega) ?_))))
  refine WCr (WLa Z (WLa Z (WL_nil (WQ_code (WC_ret ?_)))))
  refine WQ2 Z (by
    exact ⟨rfl, rfl⟩) pqY
theorem bnew_badR (k : Nat) (hk : 1 ≤ k ∧ k ≤ 4) (W : List Int) (oa : Option Addr) (c : Nat) (ent : Ent) (ha : Rd oa ent W) (limit : Int) (op : Nat) (h : 1 ≤ W.length ∧ W.length ≤ 64) (hR : ¬ OkR limit 1 op) : Spec Tryz.prog 26 [.int .i64 (k : Int), .slice oa W.length c, .int .i64 limit, .int .u64 (op : Int)] [ent] (fun r H' => r = .tuple #[.pointer none, .int .i64 2] ∧ H' = [ent]) := by
 refine Spec.of (E := [(0, .int .i64 (k : Int)), (1, .slice oa W.length c), (2, .int .i64 limit), (3, .int .u64 (op : Int))]) Tryz.func26 rfl (by kernel_rfl) Tryz.ntmps26 rfl rfl (fun w => ?_)
 refine WCr (WLa Z (WLa Z (WL_nil (WQ_code (WCr (WLc Z (kinds_ok) Z pqY ?_))))))
 rintro _ _ ⟨_, ⟨kb, ek9, kc, rfl, hMk, rfl⟩, rfl⟩
 refine WLa Z (WLv Z (R_look (ek := ekI) (ev := fnV) (k := (k : Int)) (a := pickF k) Z Tryz.underlying115 Tryz.underlying22 Z Z mmY hMk (kl_in hk)) ?_)
 refine WLd Z (D_makeMap Z) ?_
 rintro _ _ ⟨mb, rfl, rfl⟩
 refine WLv Z (R_build Z zv120 pl120 Z Z) ?_
 refine WLd Z (D_box (cs := [_, _, _, _, _, _]) Z Z Z) ?_
 rintro _ _ ⟨b1, rfl, rfl⟩
 refine WLa Z (WL_nil (WQ_code (WC_seq (WCr (WLa Z (WLa Z (WLf Z fa120_0 (WLv Z (R_load (v := fnV (pickF k)) Z sc114 Z mmY (Z)) ?_))))))))
 refine WLv Z (R_funcEqNil Z Tryz.underlying114 Z) ?_
 refine WLa Z (WLa Z (WLv Z (R_len Z Tryz.underlying23 Z) ?_))
 refine WLa Z (WLa Z (WLa Z (WL_set (s := 31) (v := .bool false) Z (by exact congrArg Value.bool (decide_eq_false (by omega))) ?_)))
 refine WLa Z (WLv Z (R_len Z Tryz.underlying23 Z) ?_)
 refine WLa Z (WLa Z (WL_nil (WQ_code (WC_dF Z (by omega) ?_))))
 refine WC_skip (WQ_code (WC_seq (WCr (WLa Z (WLv Z (R_len Z Tryz.underlying23 Z) ?_)))))
 refine WLa Z (WL_nil (WQ_code (WC_block (WC_loopF (G := NwW) [8, 9, 12, 13, 14, 38, 39, 40, 41, 42, 43, 44, 45, 46, 47, 48, 49, 50, 51, 52, 53, 54, 55, 56, 57, 58, 59, 60, 61, 62, 63, 64, 65, 66, 67, 68, 69, 70] (fun y => y.j = 0) (fun y => [(38, .int .i64 (y.j : Int))]) (fun y => []) (fun y => W.length - y.j) (⟨0, [], [], none, 0, []⟩) (Z) leZ pqY ?_))))
 rintro y hyj
 refine WCr (WLa Z (WL_nil (WQ_code (WC_seq ?_))))
 refine WC_dec Z (fun c1 => ?_) (fun c1 => ?_)
 ·refine WC_skip (WQ_code (WC_seq (WC_block (WCr ?_))))
  obtain ⟨w9, hw9⟩ := getE (T := W) (i := y.j) (by omega)
  obtain ⟨lb, lk, lcs, le, lfr, rfl, rfl, hat⟩ := ha (by omega)
  refine WLv Z (R_indexAddrN Z Tryz.underlying23 Tryz.sizeOf3 Z Z (by omega)) ?_
  refine WLv Z (R_loadG (v := .int .i64 w9) Z sc3 Z mmY (hat y.j w9 hw9)) ?_
  refine WLa Z (WL_nil (WQ_code (WCr (WLa Z (WLa Z (WLc Z (bk_new_bad limit 1 op hR) Z pqY ?_))))))
  rintro _ _ ⟨_, ⟨rfl, rfl⟩, rfl⟩
  refine WLa Z (WLa Z (WLa Z (WLa Z (WLa Z (WL_nil (WQ_code (WC_seq (WCr (WLa Z (WLa Z (WL_set (s := 49) (v := .bool true) Z (by simp) ?_)))))))))))
  refine WLa Z (WLa Z (WLa Z (WLa Z (WLa Z (WLa Z (WLa Z (WLa Z (WL_nil (WQ_code (WC_T Z (WCr (WLa Z (WLa Z (WL_nil (WQ_code (WC_ret ?_))))))))))))))))
  refine WQ2 Z (by
    exact ⟨rfl, rfl⟩) pqY
 ·exfalso; omega
theorem bnew_badW (k : Nat) (hk : 1 ≤ k ∧ k ≤ 4) (W : List Int) (oa : Option Addr) (c : Nat) (ent : Ent) (ha : Rd oa ent W) (limit : Int) (op : Nat) (h : 1 ≤ W.length ∧ W.length ≤ 64) (hR : OkR limit 1 op) (hW : ¬ ∀ w ∈ W, 1 ≤ w ∧ w ≤ 100) : Spec Tryz.prog 26 [.int .i64 (k : Int), .slice oa W.length c, .int .i64 limit, .int .u64 (op : Int)] [ent] (fun r H' => r = .tuple #[.pointer none, .int .i64 2] ∧ H' = [ent]) := by
 refine Spec.of (E := [(0, .int .i64 (k : Int)), (1, .slice oa W.length c), (2, .int .i64 limit), (3, .int .u64 (op : Int))]) Tryz.func26 rfl (by kernel_rfl) Tryz.ntmps26 rfl rfl (fun w => ?_)
 refine WCr (WLa Z (WLa Z (WL_nil (WQ_code (WCr (WLc Z (kinds_ok) Z pqY ?_))))))
 rintro _ _ ⟨_, ⟨kb, ek9, kc, rfl, hMk, rfl⟩, rfl⟩
 refine WLa Z (WLv Z (R_look (ek := ekI) (ev := fnV) (k := (k : Int)) (a := pickF k) Z Tryz.underlying115 Tryz.underlying22 Z Z mmY hMk (kl_in hk)) ?_)
 refine WLd Z (D_makeMap Z) ?_
 rintro _ _ ⟨mb, rfl, rfl⟩
 refine WLv Z (R_build Z zv120 pl120 Z Z) ?_
 refine WLd Z (D_box (cs := [_, _, _, _, _, _]) Z Z Z) ?_
 rintro _ _ ⟨b1, rfl, rfl⟩
 refine WLa Z (WL_nil (WQ_code (WC_seq (WCr (WLa Z (WLa Z (WLf Z fa120_0 (WLv Z (R_load (v := fnV (pickF k)) Z sc114 Z mmY (Z)) ?_))))))))
 refine WLv Z (R_funcEqNil Z Tryz.underlying114 Z) ?_
 refine WLa Z (WLa Z (WLv Z (R_len Z Tryz.underlying23 Z) ?_))
 refine WLa Z (WLa Z (WLa Z (WL_set (s := 31) (v := .bool false) Z (by exact congrArg Value.bool (decide_eq_false (by omega))) ?_)))
 refine WLa Z (WLv Z (R_len Z Tryz.underlying23 Z) ?_)
 refine WLa Z (WLa Z (WL_nil (WQ_code (WC_dF Z (by omega) ?_))))
 refine WC_skip (WQ_code (WC_seq (WCr (WLa Z (WLv Z (R_len Z Tryz.underlying23 Z) ?_)))))
 refine WLa Z (WL_nil (WQ_code (WC_block (WC_none 125 ?_))))
 refine WC_loopF (G := NwW) [8, 9, 12, 13, 14, 38, 39, 40, 41, 42, 43, 44, 45, 46, 47, 48, 49, 50, 51, 52, 53, 54, 55, 56, 57, 58, 59, 60, 61, 62, 63, 64, 65, 66, 67, 68, 69, 70] (fun y => y.j ≤ W.length ∧ y.L.map vw = (W.take y.j).map (fun w => (w, 0, 0, true, newB limit 1 op)) ∧ y.B = bks y.L ∧ Own y.o y.L.length y.c 5 (y.L.flatMap encB) y.t ∧ ∀ w ∈ W.take y.j, 1 ≤ w ∧ w ≤ 100) (fun y => [(38, .int .i64 (y.j : Int))]) (fun y => [⟨some b1, cl [fnV (pickF k), slV y.o y.L.length y.c, .int .i64 0, .int .i64 0, .map (some mb), .int .u64 0] 120⟩, ⟨y.o, cl (y.L.flatMap encB ++ y.t) 125⟩] ++ y.B) (fun y => W.length - y.j) (⟨0, [], [], none, 0, []⟩) (⟨Nat.zero_le _, Z, Z, Own.empty 5, by simp⟩) leZ pqY ?_
 rintro y ⟨hyj, hyL, hyB, hyo, hyw⟩
 have hyl : y.L.length = y.j := by have := congrArg List.length hyL; rw [List.length_map, List.length_map, List.length_take] at this; omega
 refine WCr (WLa Z (WL_nil (WQ_code (WC_seq ?_))))
 refine WC_dec Z (fun c1 => ?_) (fun c1 => ?_)
 ·refine WC_skip (WQ_code (WC_seq (WC_block (WCr ?_))))
  obtain ⟨w9, hw9⟩ := getE (T := W) (i := y.j) (by omega)
  obtain ⟨lb, lk, lcs, le, lfr, rfl, rfl, hat⟩ := ha (by omega)
  refine WLv Z (R_indexAddrN Z Tryz.underlying23 Tryz.sizeOf3 Z Z (by omega)) ?_
  refine WLv Z (R_loadG (v := .int .i64 w9) Z sc3 Z mmY (hat y.j w9 hw9)) ?_
  refine WLa Z (WL_nil (WQ_code (WCr (WLa Z (WLa Z (WLc Z (bk_new_ok limit 1 op hR) Z pqY ?_))))))
  rintro _ _ ⟨_, ⟨p9, rfl, rfl⟩, rfl⟩
  refine WLa Z (WLa Z (WLa Z (WLa Z (WLa Z (WL_nil (WQ_code (WC_seq (WCr (WLa Z (WLa Z (WL_set (s := 49) (v := .bool false) Z (by simp) ?_)))))))))))
  refine WLa Z (WLa Z (WLa Z (WLa Z (WLa Z ?_))))
  refine WL_splitD (s := 54) Z (fun c2 => ?_) (fun c2 => ?_)
  ·refine WLa Z (WLa Z (WLa Z (WL_nil (WQ_code (WC_T Z (WCr (WLa Z (WLa Z (WL_nil (WQ_code (WC_ret ?_)))))))))))
   refine WQ2 Z (by
     exact ⟨rfl, rfl⟩) pqY
  ·refine WLa Z (WLa Z (WLa Z (WL_nil (WQ_code ?_))))
   refine WC_dec Z (fun c3 => ?_) (fun c3 => ?_)
   ·refine WCr (WLa Z (WLa Z (WL_nil (WQ_code (WC_ret ?_)))))
    refine WQ2 Z (by
      exact ⟨rfl, rfl⟩) pqY
   ·refine WC_skip (WQ_code (WC_region (WLa Z (WLa Z (WLa Z (WLf Z fa120_1 (WLl Z sc118 mmY Z (WLa Z (WLa Z (WLv Z (R_build Z zv125 pl125 Z Z) ?_))))))))))
    refine WLd Z (D_buildSlice Z si118 Z Z Z) ?_
    rintro _ _ ⟨b2, rfl, rfl⟩
    refine WLd Z (D_append Z si118 Z (hyo) plY Z mmY ((atZ : At _ 0 [_, _, _, _, _])) (Z) (Z) (by omega) (by omega)) ?_
    rintro _ _ ⟨ob3, cap3, tl3, rfl, own3, rfl⟩
    rw [show y.L.flatMap encB ++ [Value.int .i64 w9, Value.int .i64 0, Value.int .i64 0, Value.bool true, ptrB p9] = (y.L ++ [(⟨w9, 0, 0, true, p9, newB limit 1 op⟩ : Bk)]).flatMap encB from by simp, show y.L.length + 1 = (y.L ++ [(⟨w9, 0, 0, true, p9, newB limit 1 op⟩ : Bk)]).length from by simp] at own3 ⊢
    refine WLa Z (WLf Z fa120_1 (WLs (vs := [_]) Z Tryz.sizeOf118 Z Z plY (nb Z) ?_))
    refine WL_nil (WQ_code (WC_region (WLv Z (R_add Z Z Z (by omega)) ?_)))
    refine WLa Z (WL_nil ?_)
    refine WQ_nextF (⟨y.j + 1, y.L ++ [⟨w9, 0, 0, true, p9, newB limit 1 op⟩], y.B ++ [bkE ⟨w9, 0, 0, true, p9, newB limit 1 op⟩], ob3, cap3, tl3⟩) (⟨by dsimp only; omega, by dsimp only; rw [take_next hw9, List.map_append, List.map_append, hyL]; rfl, by dsimp only; rw [hyB]; unfold bks; rw [List.map_append]; rfl, own3, fun v hv => by dsimp only at hv; rw [take_next hw9] at hv; rcases List.mem_append.1 hv with hv | hv; exact hyw v hv; rw [List.mem_singleton.1 hv]; omega⟩) (by dsimp only; omega) leZ (psZ) Z pqY
 ·exfalso; rw [List.take_of_length_le (by omega)] at hyw; exact hW hyw
theorem bnew_ok (k : Nat) (hk : 1 ≤ k ∧ k ≤ 4) (W : List Int) (oa : Option Addr) (c : Nat) (ent : Ent) (ha : Rd oa ent W) (limit : Int) (op : Nat) (h : 1 ≤ W.length ∧ W.length ≤ 64) (hR : OkR limit 1 op) (hW : ∀ w ∈ W, 1 ≤ w ∧ w ≤ 100) : Spec Tryz.prog 26 [.int .i64 (k : Int), .slice oa W.length c, .int .i64 limit, .int .u64 (op : Int)] [ent]
  (fun r H' => ∃ m, r = .tuple #[ptrB m.p, .int .i64 0] ∧ H' = ent :: balH m ∧ BalIs 0 m [] ∧ m.k = k ∧ m.n = W.length ∧ m.nx = 0 ∧ m.gv = 0 ∧ m.last = 0 ∧ m.L.map vw = W.map (fun w => (w, 0, 0, true, newB limit 1 op))) := by
 refine Spec.of (E := [(0, .int .i64 (k : Int)), (1, .slice oa W.length c), (2, .int .i64 limit), (3, .int .u64 (op : Int))]) Tryz.func26 rfl (by kernel_rfl) Tryz.ntmps26 rfl rfl (fun w => ?_)
 refine WCr (WLa Z (WLa Z (WL_nil (WQ_code (WCr (WLc Z (kinds_ok) Z pqY ?_))))))
 rintro _ _ ⟨_, ⟨kb, ek9, kc, rfl, hMk, rfl⟩, rfl⟩
 refine WLa Z (WLv Z (R_look (ek := ekI) (ev := fnV) (k := (k : Int)) (a := pickF k) Z Tryz.underlying115 Tryz.underlying22 Z Z mmY hMk (kl_in hk)) ?_)
 refine WLd Z (D_makeMap Z) ?_
 rintro _ _ ⟨mb, rfl, rfl⟩
 refine WLv Z (R_build Z zv120 pl120 Z Z) ?_
 refine WLd Z (D_box (cs := [_, _, _, _, _, _]) Z Z Z) ?_
 rintro _ _ ⟨b1, rfl, rfl⟩
 refine WLa Z (WL_nil (WQ_code (WC_seq (WCr (WLa Z (WLa Z (WLf Z fa120_0 (WLv Z (R_load (v := fnV (pickF k)) Z sc114 Z mmY (Z)) ?_))))))))
 refine WLv Z (R_funcEqNil Z Tryz.underlying114 Z) ?_
 refine WLa Z (WLa Z (WLv Z (R_len Z Tryz.underlying23 Z) ?_))
 refine WLa Z (WLa Z (WLa Z (WL_set (s := 31) (v := .bool false) Z (by exact congrArg Value.bool (decide_eq_false (by omega))) ?_)))
 refine WLa Z (WLv Z (R_len Z Tryz.underlying23 Z) ?_)
 refine WLa Z (WLa Z (WL_nil (WQ_code (WC_dF Z (by omega) ?_))))
 refine WC_skip (WQ_code (WC_seq (WCr (WLa Z (WLv Z (R_len Z Tryz.underlying23 Z) ?_)))))
 refine WLa Z (WL_nil (WQ_code (WC_block (WC_none 125 ?_))))
 refine WC_loopF (G := NwW) [8, 9, 12, 13, 14, 38, 39, 40, 41, 42, 43, 44, 45, 46, 47, 48, 49, 50, 51, 52, 53, 54, 55, 56, 57, 58, 59, 60, 61, 62, 63, 64, 65, 66, 67, 68, 69, 70] (fun y => y.j ≤ W.length ∧ y.L.map vw = (W.take y.j).map (fun w => (w, 0, 0, true, newB limit 1 op)) ∧ y.B = bks y.L ∧ Own y.o y.L.length y.c 5 (y.L.flatMap encB) y.t) (fun y => [(38, .int .i64 (y.j : Int))]) (fun y => [⟨some b1, cl [fnV (pickF k), slV y.o y.L.length y.c, .int .i64 0, .int .i64 0, .map (some mb), .int .u64 0] 120⟩, ⟨y.o, cl (y.L.flatMap encB ++ y.t) 125⟩] ++ y.B) (fun y => W.length - y.j) (⟨0, [], [], none, 0, []⟩) (⟨Nat.zero_le _, Z, Z, Own.empty 5⟩) leZ pqY ?_
 rintro y ⟨hyj, hyL, hyB, hyo⟩
 have hyl : y.L.length = y.j := by have := congrArg List.length hyL; rw [List.length_map, List.length_map, List.length_take] at this; omega
 refine WCr (WLa Z (WL_nil (WQ_code (WC_seq ?_))))
 refine WC_dec Z (fun c1 => ?_) (fun c1 => ?_)
 ·refine WC_skip (WQ_code (WC_seq (WC_block (WCr ?_))))
  obtain ⟨w9, hw9⟩ := getE (T := W) (i := y.j) (by omega)
  obtain ⟨lb, lk, lcs, le, lfr, rfl, rfl, hat⟩ := ha (by omega)
  have hw1 := hW w9 (List.mem_of_getElem? hw9)
  refine WLv Z (R_indexAddrN Z Tryz.underlying23 Tryz.sizeOf3 Z Z (by omega)) ?_
  refine WLv Z (R_loadG (v := .int .i64 w9) Z sc3 Z mmY (hat y.j w9 hw9)) ?_
  refine WLa Z (WL_nil (WQ_code (WCr (WLa Z (WLa Z (WLc Z (bk_new_ok limit 1 op hR) Z pqY ?_))))))
  rintro _ _ ⟨_, ⟨p9, rfl, rfl⟩, rfl⟩
  refine WLa Z (WLa Z (WLa Z (WLa Z (WLa Z (WL_nil (WQ_code (WC_seq (WCr (WLa Z (WLa Z (WL_set (s := 49) (v := .bool false) Z (by simp) ?_)))))))))))
  refine WLa Z (WLa Z (WLa Z (WLa Z (WLa Z (WL_set (s := 54) (v := .bool false) Z (by exact congrArg Value.bool (decide_eq_false (by omega))) ?_)))))
  refine WLa Z (WLa Z (WLa Z (WL_nil (WQ_code (WC_dF Z (by omega) ?_)))))
  refine WC_skip (WQ_code (WC_region (WLa Z (WLa Z (WLa Z (WLf Z fa120_1 (WLl Z sc118 mmY Z (WLa Z (WLa Z (WLv Z (R_build Z zv125 pl125 Z Z) ?_))))))))))
  refine WLd Z (D_buildSlice Z si118 Z Z Z) ?_
  rintro _ _ ⟨b2, rfl, rfl⟩
  refine WLd Z (D_append Z si118 Z (hyo) plY Z mmY ((atZ : At _ 0 [_, _, _, _, _])) (Z) (Z) (by omega) (by omega)) ?_
  rintro _ _ ⟨ob3, cap3, tl3, rfl, own3, rfl⟩
  rw [show y.L.flatMap encB ++ [Value.int .i64 w9, Value.int .i64 0, Value.int .i64 0, Value.bool true, ptrB p9] = (y.L ++ [(⟨w9, 0, 0, true, p9, newB limit 1 op⟩ : Bk)]).flatMap encB from by simp, show y.L.length + 1 = (y.L ++ [(⟨w9, 0, 0, true, p9, newB limit 1 op⟩ : Bk)]).length from by simp] at own3 ⊢
  refine WLa Z (WLf Z fa120_1 (WLs (vs := [_]) Z Tryz.sizeOf118 Z Z plY (nb Z) ?_))
  refine WL_nil (WQ_code (WC_region (WLv Z (R_add Z Z Z (by omega)) ?_)))
  refine WLa Z (WL_nil ?_)
  refine WQ_nextF (⟨y.j + 1, y.L ++ [⟨w9, 0, 0, true, p9, newB limit 1 op⟩], y.B ++ [bkE ⟨w9, 0, 0, true, p9, newB limit 1 op⟩], ob3, cap3, tl3⟩) (⟨by dsimp only; omega, by dsimp only; rw [take_next hw9, List.map_append, List.map_append, hyL]; rfl, by dsimp only; rw [hyB]; unfold bks; rw [List.map_append]; rfl, own3⟩) (by dsimp only; omega) leZ (psZ) Z pqY
 ·have hjl : y.j = W.length := by omega
  rw [List.take_of_length_le (by omega)] at hyL
  obtain ⟨wb, hwb⟩ := hyo.some_of (by omega)
  rw [hwb, hyB, show y.L.length = W.length by omega]
  rw [hwb, show y.L.length = W.length by omega] at hyo
  have hvw : ∀ x ∈ y.L, x.w ∈ W ∧ x.sh = 0 ∧ x.act = 0 ∧ x.b = newB limit 1 op := fun x hx => by have h8 := List.mem_map_of_mem (f := vw) hx; rw [hyL] at h8; obtain ⟨w, hw, e⟩ := List.mem_map.1 h8; unfold vw at e; simp only [Prod.mk.injEq] at e; exact ⟨e.1 ▸ hw, e.2.1.symm, e.2.2.1.symm, e.2.2.2.2.symm⟩
  refine WC_exit (WQ_code (WCr (WLa Z (WLa Z (WLa Z (WL_nil (WQ_code (WC_ret ?_))))))))
  refine WQ2 Z (by
    refine ⟨⟨b1, k, W.length, wb, y.c, y.t, y.L, 0, 0, mb, #[], 0, 0⟩, rfl, rfl, ⟨by dsimp only; omega, hyo, Mp.empty ekI_key ekI_inj, hk, h, ?_, ?_, ?_, ?_, by dsimp only; omega, Nat.le_refl _, Nat.le_refl _, fun c hc => (by cases hc), fun c hc => (by cases hc), fun c hc => (by cases hc), Nat.zero_le _⟩, rfl, rfl, rfl, rfl, rfl, hyL⟩
    ·intro x hx; rw [(hvw x hx).2.2.2]; exact ⟨fit_new hR, Nat.le_refl _, Int.le_refl _⟩
    ·intro x hx; exact hW _ (hvw x hx).1
    ·intro x hx; rw [(hvw x hx).2.1]; decide
    ·intro x hx; rw [(hvw x hx).2.2.1]; decide) pqY
structure CanW where
 k : Nat
 l : List Int
 o : Option Nat
 c : Nat
 tl : List Value
theorem bcand_ok (m : Bm) (N : Nat) (C : List Cl) (hm : BalIs N m C) (now : Nat) (h1 : m.last ≤ now) (h2 : now ≤ 18446744073709551614) : Spec Tryz.prog 114 [ptrB m.p, .int .u64 (now : Int)] (balH m)
  (fun r H' => ∃ o c tl, r = slV o (cand m.L now).length c ∧ Own o (cand m.L now).length c 1 (ivs (cand m.L now)) tl ∧ H' = ⟨o, cl (ivs (cand m.L now) ++ tl) 3⟩ :: balH m) := by
 have hmay : mayB m true now = 0 := by unfold mayB; rw [if_neg (by decide), if_neg (by omega)]
 have hnn := hm.n
 have hcd : candK m.L now m.n = cand m.L now := by unfold cand; rw [hm.hn]
 refine Spec.of (E := [(0, ptrB m.p), (1, .int .u64 (now : Int))]) Tryz.func114 rfl (by kernel_rfl) Tryz.ntmps114 rfl rfl (fun w => ?_)
 refine WCr (WLa Z (WL_nil (WQ_code (WC_seq (WCr (WLa Z (WLa Z (WLq Z (bmay_ok m true now) Z pqY ?_))))))))
 refine WLa Z (WL_nil (WQ_code (WC_dF Z (by rw [hmay]; decide) ?_)))
 refine WC_skip (WQ_code (WCr (WLa Z (WL_nil (WQ_code (WC_seq (WCr (WLa Z (WLa Z (WLf Z fa120_1 (WLl Z sc118 mmY Z (WLv Z (R_len Z Tryz.underlying118 Z) ?_))))))))))))
 refine WLa Z (WL_nil (WQ_code (WC_block (WC_none 3 ?_))))
 refine WC_loopF (G := CanW) [5, 6, 7, 8, 9, 19, 20, 21, 22, 23, 24, 25, 26, 27, 28, 29, 30, 31, 32, 33, 34, 35, 36, 37, 38, 39, 40] (fun y => y.k ≤ m.n ∧ y.l = candK m.L now y.k ∧ Own y.o y.l.length y.c 1 (ivs y.l) y.tl) (fun y => [(19, .int .i64 (y.k : Int)), (5, slV y.o y.l.length y.c)]) (fun y => [⟨y.o, cl (ivs y.l ++ y.tl) 3⟩]) (fun y => m.n - y.k) (⟨0, [], none, 0, []⟩) (⟨Nat.zero_le _, Z, Own.empty 1⟩) leZ pqY ?_
 rintro y ⟨hyk, hyl, hyo⟩
 refine WCr (WLa Z (WL_nil (WQ_code (WC_seq ?_))))
 refine WC_dec Z (fun c1 => ?_) (fun c1 => ?_)
 ·refine WC_skip (WQ_code (WC_seq (WC_block (WCr ?_))))
  have hk9 : y.k < m.n := by omega
  obtain ⟨x9, hx9⟩ := getE (T := m.L) (i := y.k) (by rw [hm.hn]; exact hk9)
  have hfx := hm.fit x9 (List.mem_of_getElem? hx9)
  have hcn := candK_next (L := m.L) (now := now) (k := y.k)
  have hcl9 := candK_len m.L now y.k
  rw [← hyl] at hcl9 hcn
  refine WLa Z (WLv Z (R_indexAddrN Z Tryz.underlying118 Tryz.sizeOf125 Z Z (by omega)) ?_)
  refine WLv Z (R_loadA (vs := encB x9) Z ag125 Z mmY Z (fm_at0 encB5 hx9 (j := 0) (vs := encB x9) (fun j v h => by rw [Nat.zero_add]; exact h) (Nat.le_refl _))) ?_
  refine WLd Z (D_alloc Z zv125) ?_
  rintro _ _ ⟨b1, rfl, rfl⟩
  refine WLa Z (WLs (vs := [_, _, _, _, _]) Z Tryz.sizeOf125 Z Z plY (nb Z) ?_)
  refine WL_nil (WQ_code (WCr (WLf Z fa125_4 (WLl Z sc121 mmY Z (WLa Z (WLc Z (ready_at hx9 hfx.1 now (by omega) h2) Z pqY ?_))))))
  rintro _ _ ⟨_, ⟨rfl, rfl⟩, rfl⟩
  refine WLa Z (WLa Z (WLa Z (WLa Z (WLa Z (WL_nil (WQ_code (WCr (WLa Z (WLa Z ?_)))))))))
  refine WL_splitD (s := 32) Z (fun c2 => ?_) (fun c2 => ?_)
  ·have hrd9 : rdB x9.b now := c2
   refine WLf Z fa125_3 (WLl Z sc4 mmY Z (WLa Z (WL_nil (WQ_code ?_))))
   refine WC_if Z (fun c3 => ?_) (fun c3 => ?_)
   ·have hok : okAt m.L now y.k = true := by unfold okAt; rw [hx9]; simp [hrd9, c3]
    rw [if_pos hok] at hcn
    refine WC_region (WLa Z (WLa Z (WLd Z (D_buildSlice Z si23 Z Z Z) ?_)))
    rintro _ _ ⟨b2, rfl, rfl⟩
    refine WLd Z (D_append Z si23 Z (hyo) plY Z mmY ((atZ : At _ 0 [_])) (Z) (Z) (by omega) (by omega)) ?_
    rintro _ _ ⟨ob3, cap3, tl3, rfl, own3, rfl⟩
    rw [show ivs y.l ++ [Value.int .i64 (y.k : Int)] = ivs (y.l ++ [(y.k : Int)]) from by simp, show y.l.length + 1 = (y.l ++ [(y.k : Int)]).length from by simp] at own3 ⊢
    refine WLa Z (WL_nil (WQ_code (WC_region (WLv Z (R_add Z Z Z (by omega)) ?_))))
    refine WLa Z (WL_nil ?_)
    refine WQ_nextF (⟨y.k + 1, y.l ++ [(y.k : Int)], ob3, cap3, tl3⟩) (⟨by dsimp only; omega, hcn.symm, own3⟩) (by dsimp only; omega) leZ (psZ) Z pqY
   ·have hok : okAt m.L now y.k = false := by unfold okAt; rw [hx9]; simp [c3]
    rw [hok, if_neg (by decide), List.append_nil] at hcn
    refine WC_skip (WQ_code (WC_region (WLv Z (R_add Z Z Z (by omega)) ?_)))
    refine WLa Z (WL_nil ?_)
    refine WQ_nextF (⟨y.k + 1, y.l, y.o, y.c, y.tl⟩) (⟨by dsimp only; omega, hcn.symm, hyo⟩) (by dsimp only; omega) leZ (psZ) Z pqY
  ·have hok : okAt m.L now y.k = false := by unfold okAt; rw [hx9]; simp [c2]
   rw [hok, if_neg (by decide), List.append_nil] at hcn
   refine WLa Z (WLa Z (WLa Z (WL_nil (WQ_code (WC_F Z (WC_skip (WQ_code (WC_region (WLv Z (R_add Z Z Z (by omega)) ?_)))))))))
   refine WLa Z (WL_nil ?_)
   refine WQ_nextF (⟨y.k + 1, y.l, y.o, y.c, y.tl⟩) (⟨by dsimp only; omega, hcn.symm, hyo⟩) (by dsimp only; omega) leZ (psZ) Z pqY
 ·have hkl : y.l = cand m.L now := by rw [hyl, show y.k = m.n by omega, hcd]
  refine WC_exit (WQ_code (WCr (WLa Z (WLa Z (WL_nil (WQ_code (WC_ret ?_)))))))
  refine WQ1 Z (by
    exact ⟨y.o, y.c, y.tl, by rw [← hkl]; try rfl, by rw [← hkl]; exact hyo, by rw [← hkl]⟩) pqY
theorem bpick_none (m : Bm) (N : Nat) (C : List Cl) (hm : BalIs N m C) (hN : N ≤ 9000) (now : Nat) (key : ByteArray) (hk : key.size ≤ 64) (h1 : m.last ≤ now) (h2 : now ≤ 18446744073709551614) (h : cand m.L now = []) : Spec Tryz.prog 60 [ptrB m.p, .int .u64 (now : Int), .string key] (balH m)
  (fun r H' => r = .tuple #[.agg #[.int .i64 0, .int .i64 0], .int .i64 9] ∧ H' = balH m) := by
 have hmay : mayB m (decide ((key.size : Int) ≤ 64)) now = 0 := by unfold mayB; rw [if_neg (by rw [decide_eq_false_iff_not]; omega), if_neg (by omega)]
 have hcl := hm.cl
 refine Spec.of (E := [(0, ptrB m.p), (1, .int .u64 (now : Int)), (2, .string key)]) Tryz.func60 rfl (by kernel_rfl) Tryz.ntmps60 rfl rfl (fun w => ?_)
 refine WCr (WLd Z (D_alloc Z zv138) ?_)
 rintro _ _ ⟨b1, rfl, rfl⟩
 refine WLa Z (WL_nil (WQ_code (WC_seq (WCr (WLa Z (WLa Z (WLv Z (R_lenStr Z Tryz.underlying9 Z) ?_)))))))
 refine WLa Z (WLa Z (WLq Z (bmay_ok m (decide ((key.size : Int) ≤ 64)) now) Z pqY ?_))
 refine WLa Z (WL_nil (WQ_code (WCr (WLa Z (WLa Z (WL_nil (WQ_code (WC_dF Z (by rw [hmay]; decide) ?_))))))))
 refine WC_skip (WQ_code (WCr (WLa Z (WLa Z (WLc Z (bcand_ok m N C hm now h1 h2) Z pqY ?_)))))
 rintro _ _ ⟨_, ⟨o9, c9, tl9, rfl, own9, rfl⟩, rfl⟩
 refine WLa Z (WL_nil (WQ_code (WC_seq (WC_block (WCr (WLa Z (WLa Z (WLf Z fa120_4 (WLl Z sc117 mmY Z (WLv Z (R_lenMap Z Tryz.underlying117 Z mmY hm.mp) ?_))))))))))
 refine WLa Z (WLa Z (WL_nil (WQ_code (WC_dF Z (by omega) ?_))))
 refine WCr (WLa Z (WLv Z (R_len Z Tryz.underlying23 Z) ?_))
 refine WLa Z (WLa Z (WL_nil (WQ_code (WC_dT Z (by rw [h]; rfl) ?_))))
 refine WCr (WLv Z (R_build Z zv138 pl138 Z Z) ?_)
 refine WLs (vs := [_, _]) Z Tryz.sizeOf138 Z Z plY (nb Z) ?_
 refine WLa Z (WL_nil (WQ_code (WC_ret ?_)))
 refine WQ_ret Z Z (.cons (.cell (vs := [_, _]) Z ag138 mmY Z atZ) (.cons (.tmp Z) .nil)) Z (by
   exact ⟨rfl, rfl⟩) pqY
def pickS (k : Nat) (L : List Bk) (now : Nat) (l : List Int) (i : Nat) : List Bk :=
 (pickL k L l).set i { gB (pickL k L l) (i : Int) with act := (gB L (i : Int)).act + 1, b := alB (gB L (i : Int)).b now }
theorem bpick_raw (m : Bm) (N : Nat) (C : List Cl) (hm : BalIs N m C) (hN : N ≤ 9000) (now : Nat) (key : ByteArray) (hk : key.size ≤ 64) (h1 : m.last ≤ now) (h2 : now ≤ 18446744073709551614) (i : Nat) (x : Bk) (hx : m.L[i]? = some x) (hr : rdB x.b now)
  (hne : cand m.L now ≠ []) (hi : pickI m.k m.L m.nx key (cand m.L now) = (i : Int)) : Spec Tryz.prog 60 [ptrB m.p, .int .u64 (now : Int), .string key] (balH m)
  (fun r H' => ∃ es' mc', r = .tuple #[.agg #[.int .i64 (i : Int), .int .i64 ((m.gv + 1 : Nat) : Int)], .int .i64 0] ∧ Mp (.int .i64) ekI evC es' ((((m.gv + 1 : Nat) : Int), ((i : Int), (alB x.b now).gen)) :: C) ∧
   H' = balH { m with L := pickS m.k m.L now (cand m.L now) i, nx := pickN m.k m.n m.nx (cand m.L now), gv := m.gv + 1, last := now, es := es', mc := mc' }) := by
 have hmay : mayB m (decide ((key.size : Int) ≤ 64)) now = 0 := by unfold mayB; rw [if_neg (by rw [decide_eq_false_iff_not]; omega), if_neg (by omega)]
 have hcl := hm.cl
 have hin : ∀ a ∈ cand m.L now, ∃ (i : Nat) (x : Bk), a = (i : Int) ∧ m.L[i]? = some x := fun a ha => by
  obtain ⟨i, x, h1, h2, _⟩ := cand_mem ha
  exact ⟨i, x, h1, h2⟩
 have hl1 : 1 ≤ (cand m.L now).length := by
  cases h : cand m.L now with
  | nil => exact absurd h hne
  | cons a r => simp
 have hlb : (cand m.L now).length ≤ 64 := Nat.le_trans (candK_len _ _ _) (by rw [hm.hn]; exact hm.n.2)
 have hil := (List.getElem?_eq_some_iff.1 hx).1
 have hin9 : i < m.n := by rw [← hm.hn]; exact hil
 obtain ⟨y, hy⟩ := getE (T := pickL m.k m.L (cand m.L now)) (i := i) (by rw [pickL_len]; exact hil)
 obtain ⟨x', hx', e1, _, _⟩ := pickL_get hm.w hin hy
 obtain rfl : x' = x := by rw [hx] at hx'; exact (Option.some.inj hx').symm
 obtain ⟨s1, rfl⟩ : ∃ s, y = { x' with sh := s } := ⟨y.sh, e1⟩
 have hfx := hm.fit x' (List.mem_of_getElem? hx)
 have hax := hm.act x' (List.mem_of_getElem? hx)
 have hgv := hm.gv
 have hnn := hm.n
 have hil2 : i < (pickL m.k m.L (cand m.L now)).length := by rw [pickL_len]; exact hil
 have hS : pickS m.k m.L now (cand m.L now) i = (pickL m.k m.L (cand m.L now)).set i { x' with sh := s1, act := x'.act + 1, b := alB x'.b now } := by unfold pickS; rw [gB_at hy, gB_at hx]
 have hSe : ((pickL m.k m.L (cand m.L now)).set i { x' with sh := s1, act := x'.act + 1 }).flatMap encB = (pickS m.k m.L now (cand m.L now) i).flatMap encB := by
  rw [hS, List.flatMap_def, List.flatMap_def, List.map_set, List.map_set]
 have hSb : bks (m.L.set i { x' with b := alB x'.b now }) = bks (pickS m.k m.L now (cand m.L now) i) := by
  have e := pickL_bks m.k m.L (cand m.L now)
  unfold bks at e ⊢
  rw [hS, List.map_set, List.map_set, e]
 have hnk : ((m.gv + 1 : Nat) : Int) ∉ C.map (·.1) := fun h => by
  obtain ⟨c, hc, e⟩ := List.mem_map.1 h
  have := hm.ky c hc
  omega
 refine Spec.of (E := [(0, ptrB m.p), (1, .int .u64 (now : Int)), (2, .string key)]) Tryz.func60 rfl (by kernel_rfl) Tryz.ntmps60 rfl rfl (fun w => ?_)
 refine WCr (WLd Z (D_alloc Z zv138) ?_)
 rintro _ _ ⟨b1, rfl, rfl⟩
 refine WLa Z (WL_nil (WQ_code (WC_seq (WCr (WLa Z (WLa Z (WLv Z (R_lenStr Z Tryz.underlying9 Z) ?_)))))))
 refine WLa Z (WLa Z (WLq Z (bmay_ok m (decide ((key.size : Int) ≤ 64)) now) Z pqY ?_))
 refine WLa Z (WL_nil (WQ_code (WCr (WLa Z (WLa Z (WL_nil (WQ_code (WC_dF Z (by rw [hmay]; decide) ?_))))))))
 refine WC_skip (WQ_code (WCr (WLa Z (WLa Z (WLc Z (bcand_ok m N C hm now h1 h2) Z pqY ?_)))))
 rintro _ _ ⟨_, ⟨o9, c9, tl9, rfl, own9, rfl⟩, rfl⟩
 refine WLa Z (WL_nil (WQ_code (WC_seq (WC_block (WCr (WLa Z (WLa Z (WLf Z fa120_4 (WLl Z sc117 mmY Z (WLv Z (R_lenMap Z Tryz.underlying117 Z mmY hm.mp) ?_))))))))))
 refine WLa Z (WLa Z (WL_nil (WQ_code (WC_dF Z (by omega) ?_))))
 refine WCr (WLa Z (WLv Z (R_len Z Tryz.underlying23 Z) ?_))
 refine WLa Z (WLa Z (WL_nil (WQ_code (WC_dF Z (by omega) ?_))))
 refine WC_skip (WQ_code (WCr (WLa Z (WLa Z (WLf Z fa120_0 (WLl Z sc114 mmY Z (WLa Z (WLa Z (WLa Z (WLq Z (choose_ok m N C hm (by omega) (cand m.L now) o9 c9 tl9 own9 hl1 hlb hin key (by omega)) Z pqY ?_))))))))))
 refine WL_set (s := 46) (v := .int .i64 (i : Int)) Z (congrArg (Value.int .i64) hi) ?_
 refine WLa Z (WL_nil (WQ_code (WCr (WLa Z (WLa Z (WLf Z fa120_1 (WLl Z sc118 mmY Z (WLa Z (WLv Z (R_indexAddrN Z Tryz.underlying118 Tryz.sizeOf125 Z Z (by omega)) ?_)))))))))
 refine WLf Z fa125_4 (WLv Z (R_load (v := ptrB x'.p) Z sc121 Z mmY (fm_get0 encB5 hy (j := 4) (by omega))) ?_)
 refine WLa Z (WLc Z (allow_at hx hfx.1 now (by omega) h2 hr) Z pqY ?_)
 rintro _ _ ⟨_, ⟨rfl, rfl⟩, rfl⟩
 rw [hSb]
 refine WLa Z (WLa Z (WLa Z (WLa Z (WLa Z (WL_nil (WQ_code (WCr (WLa Z (WLa Z (WLf Z fa120_1 (WLl Z sc118 mmY Z (WLa Z (WLv Z (R_indexAddrN Z Tryz.underlying118 Tryz.sizeOf125 Z Z (by omega)) ?_)))))))))))))
 refine WLf Z fa125_2 (WLv Z (R_load (v := .int .i64 x'.act) Z sc3 Z mmY (fm_get0 encB5 hy (j := 2) (by omega))) ?_)
 refine WLv Z (R_add Z Z Z (by omega)) ?_
 refine WLv Z (R_indexAddrN Z Tryz.underlying118 Tryz.sizeOf125 Z Z (by omega)) ?_
 refine WLf Z fa125_2 (WLs (vs := [_]) Z Tryz.sizeOf3 Z Z plY (by exact fm_room0 encB5 hil2 (j := 2) (by omega)) ?_)
 have hput := fm_put0 encB5 ({ x' with sh := s1, act := x'.act + 1 } : Bk) hy (j := 2) (vs := [.int .i64 (x'.act + 1)]) (by simp) rfl (tl := m.tl)
 rw [hput, hSe]
 refine WL_nil (WQ_code (WCr (WLa Z (WLa Z (WLf Z fa120_3 (WLv Z (R_load (v := .int .i64 (m.gv : Int)) Z sc3 Z mmY (Z)) ?_))))))
 refine WLv Z (R_addR (r := ((m.gv + 1 : Nat) : Int)) Z Z Z (by rw [wrap64_in (by omega) (by omega)]; omega)) ?_
 refine WLa Z (WLf Z fa120_3 (WLs (vs := [_]) Z Tryz.sizeOf3 Z Z plY (nb Z) ?_))
 refine WL_nil (WQ_code (WCr (WLa Z (WLa Z (WLa Z (WLf Z fa120_5 (WLs (vs := [_]) Z Tryz.sizeOf25 Z Z plY (nb Z) ?_)))))))
 refine WL_nil (WQ_code (WC_seq (WC_drawR [⟨some m.mb, _⟩] [(0, true), (1, true), (2, true), (3, true), (4, true), (5, true), (6, true), (7, true), (8, true), (9, true), (10, true), (11, false)] followsMixed Z Z (by kernel_rfl) pqY ?_)))
 refine WMa Z (WMa Z (WMf Z fa120_4 (WMl Z sc117 mmY Z (WMa Z (WMa Z (WMf Z fa120_3 (WMl Z sc3 mmY Z (WMa Z (WMa Z (WMv Z (R_build Z zv151 pl151 Z Z) ?_))))))))))
 refine WM_do0 Z Z Z (D_mapAdd (ek := ekI) (ev := evC) (k := ((m.gv + 1 : Nat) : Int)) (v := ((i : Int), (alB x'.b now).gen)) Z Tryz.underlying117 Tryz.underlying3 Z Z Z plY hm.mp hnk) ?_
 rintro _ _ ⟨es1, mc1, hM1, rfl⟩
 refine ⟨⟨_, pqY⟩, ?_⟩
 refine WM_nil (WQ_code (WCr (WLa Z (WLa Z (WLa Z (WLf Z fa120_3 (WLl Z sc3 mmY Z (WLv Z (R_build Z zv138 pl138 Z Z) ?_))))))))
 refine WLs (vs := [_, _]) Z Tryz.sizeOf138 Z Z plY (nb Z) ?_
 refine WLa Z (WL_nil (WQ_code (WC_ret ?_)))
 refine WQ_ret Z Z (.cons (.cell (vs := [_, _]) Z ag138 mmY Z atZ) (.cons (.tmp Z) .nil)) Z (by
   exact ⟨es1, mc1, rfl, hM1, rfl⟩) pqY
theorem bdone_none (m : Bm) (N : Nat) (C : List Cl) (hm : BalIs N m C) (now : Nat) (n : Int) (good : Bool) (h1 : m.last ≤ now) (h2 : now ≤ 18446744073709551614) (hn : n ∉ C.map (·.1)) : Spec Tryz.prog 38 [ptrB m.p, .int .u64 (now : Int), .int .i64 n, .bool good] [bE1 m, bE3 m] (fun r H' => r = .int .i64 9 ∧ H' = [bE1 m, bE3 m]) := by
 have hmay : mayB m true now = 0 := by unfold mayB; rw [if_neg (by decide), if_neg (by omega)]
 refine Spec.of (E := [(0, ptrB m.p), (1, .int .u64 (now : Int)), (2, .int .i64 n), (3, .bool good)]) Tryz.func38 rfl (by kernel_rfl) Tryz.ntmps38 rfl rfl (fun w => ?_)
 refine WCr (WLa Z (WL_nil (WQ_code (WC_seq (WCr (WLa Z (WLa Z (WLq Z (bmay_ok m true now) Z pqY ?_))))))))
 refine WLa Z (WL_nil (WQ_code (WCr (WLa Z (WLa Z (WL_nil (WQ_code (WC_dF Z (by rw [hmay]; decide) ?_))))))))
 refine WC_skip (WQ_code (WCr (WLa Z (WLa Z (WLf Z fa120_4 (WLl Z sc117 mmY Z (WLa Z (WLv Z (R_lookF (ek := ekI) (ev := evC) (k := n) Z Tryz.underlying117 Tryz.underlying3 Z Z mmY hm.mp hn Tryz.zeroValue151) ?_))))))))
 refine WLa Z (WLa Z (WLa Z (WLd Z (D_alloc Z zv151) ?_)))
 rintro _ _ ⟨b1, rfl, rfl⟩
 refine WLs (vs := [_, _]) Z Tryz.sizeOf151 Z Z plY (nb Z) ?_
 refine WLa Z (WL_nil (WQ_code (WC_seq (WCr (WLa Z (WLa Z (WL_nil (WQ_code (WC_T Z (WCr (WLa Z (WL_nil (WQ_code (WC_ret ?_))))))))))))))
 refine WQ1 Z (by
   exact ⟨rfl, rfl⟩) pqY
def doneS (L : List Bk) (now : Nat) (j : Nat) (gn : Int) (good : Bool) : List Bk := L.set j { gB L (j : Int) with act := (gB L (j : Int)).act - 1, b := dnK (gB L (j : Int)).b now gn good }
theorem bdone_raw (m : Bm) (N : Nat) (C : List Cl) (hm : BalIs N m C) (hN : N ≤ 9000) (now : Nat) (n : Int) (good : Bool) (h1 : m.last ≤ now) (h2 : now ≤ 18446744073709551614) (j : Nat) (gn : Int) (x : Bk) (hx : m.L[j]? = some x) (hc : (n, ((j : Int), gn)) ∈ C) (hg : 0 ≤ gn ∧ gn ≤ x.b.gen) :
  Spec Tryz.prog 38 [ptrB m.p, .int .u64 (now : Int), .int .i64 n, .bool good] (balH m) (fun r H' => ∃ es' mc', r = .int .i64 0 ∧ Mp (.int .i64) ekI evC es' (delL C n) ∧ H' = balH { m with L := doneS m.L now j gn good, last := now, es := es', mc := mc' }) := by
 have hmay : mayB m true now = 0 := by unfold mayB; rw [if_neg (by decide), if_neg (by omega)]
 have hjl := (List.getElem?_eq_some_iff.1 hx).1
 have hjn : j < m.n := by rw [← hm.hn]; exact hjl
 have hfx := hm.fit x (List.mem_of_getElem? hx)
 have hax := hm.act x (List.mem_of_getElem? hx)
 have hnn := hm.n
 have hS : doneS m.L now j gn good = m.L.set j { x with act := x.act - 1, b := dnK x.b now gn good } := by unfold doneS; rw [gB_at hx]
 have hSe : (m.L.set j { x with act := x.act - 1 }).flatMap encB = (doneS m.L now j gn good).flatMap encB := by
  rw [hS, List.flatMap_def, List.flatMap_def, List.map_set, List.map_set]
 have hSb : bks (m.L.set j { x with b := dnK x.b now gn good }) = bks (doneS m.L now j gn good) := by
  unfold bks
  rw [hS, List.map_set, List.map_set]
 refine Spec.of (E := [(0, ptrB m.p), (1, .int .u64 (now : Int)), (2, .int .i64 n), (3, .bool good)]) Tryz.func38 rfl (by kernel_rfl) Tryz.ntmps38 rfl rfl (fun w => ?_)
 refine WCr (WLa Z (WL_nil (WQ_code (WC_seq (WCr (WLa Z (WLa Z (WLq Z (bmay_ok m true now) Z pqY ?_))))))))
 refine WLa Z (WL_nil (WQ_code (WCr (WLa Z (WLa Z (WL_nil (WQ_code (WC_dF Z (by rw [hmay]; decide) ?_))))))))
 refine WC_skip (WQ_code (WCr (WLa Z (WLa Z (WLf Z fa120_4 (WLl Z sc117 mmY Z (WLa Z (WLv Z (R_lookT (ek := ekI) (ev := evC) (k := n) (a := ((j : Int), gn)) Z Tryz.underlying117 Tryz.underlying3 Z Z mmY hm.mp hc) ?_))))))))
 refine WLa Z (WLa Z (WLa Z (WLd Z (D_alloc Z zv151) ?_)))
 rintro _ _ ⟨b1, rfl, rfl⟩
 refine WLs (vs := [_, _]) Z Tryz.sizeOf151 Z Z plY (nb Z) ?_
 refine WLa Z (WL_nil (WQ_code (WC_seq (WCr (WLa Z (WLa Z (WL_nil (WQ_code (WC_F Z (WC_skip (WQ_code (WCr (WLa Z (WLa Z (WLf Z fa120_4 (WLl Z sc117 mmY Z (WLa Z (WL_do0 Z Z (D_delete (ek := ekI) (ev := evC) (k := n) (a := ((j : Int), gn)) Z Tryz.underlying117 Tryz.underlying3 Z Z plY hm.mp hc) ?_))))))))))))))))))
 rintro _ _ ⟨es1, mc1, hM1, rfl⟩
 refine WL_nil (WQ_code (WC_seq (WC_draw _ [(0, true), (1, true), (2, true), (3, true), (4, true), (5, true), (6, true), (7, true)] followsMixed Z Z (by kernel_rfl) .all ?_)))
 refine WMa Z (WMa Z (WMf Z fa120_1 (WMl Z sc118 mmY Z (WMf Z fa151_0 (WMl Z sc3 mmY Z (WMv Z (R_indexAddrN Z Tryz.underlying118 Tryz.sizeOf125 Z Z (by omega)) ?_))))))
 refine WMa Z (WM_nil (WQ_code (WCr (WLa Z (WLa Z (WLf Z fa125_2 (WLv Z (R_load (v := .int .i64 x.act) Z sc3 Z mmY (fm_get0 encB5 hx (j := 2) (by omega))) ?_)))))))
 refine WLv Z (R_sub Z Z Z (by omega)) ?_
 refine WLa Z (WLf Z fa125_2 (WLs (vs := [_]) Z Tryz.sizeOf3 Z Z plY (by exact fm_room0 encB5 hjl (j := 2) (by omega)) ?_))
 have hput := fm_put0 encB5 ({ x with act := x.act - 1 } : Bk) hx (j := 2) (vs := [.int .i64 (x.act - 1)]) (by simp) rfl (tl := m.tl)
 rw [hput]
 have hx2 : (m.L.set j { x with act := x.act - 1 })[j]? = some { x with act := x.act - 1 } := by rw [List.getElem?_set, if_pos rfl, if_pos hjl]
 refine WL_nil (WQ_code (WCr (WLa Z (WLa Z (WLa Z (WLf Z fa120_5 (WLs (vs := [_]) Z Tryz.sizeOf25 Z Z plY (nb Z) ?_)))))))
 refine WL_nil (WQ_code (WC_seq (WC_drawR (bks m.L) [(0, true), (1, true), (2, true), (3, true), (4, true), (5, true), (6, true), (7, true), (8, false)] followsMixed Z Z (by kernel_rfl) pqY ?_)))
 refine WMa Z (WMa Z (WMf Z fa125_4 (WMv Z (R_load (v := ptrB x.p) Z sc121 Z mmY (fm_get0 encB5 hx2 (j := 4) (by omega))) ?_)))
 refine WMa Z (WMf Z fa151_1 (WMl Z sc3 mmY Z (WMa Z (WMd Z (D_call (done_at hx hfx.1 now (by omega) h2 gn hg good) Z Z Z Z pqY) ?_))))
 rintro _ _ ⟨_, ⟨rfl, rfl⟩, rfl⟩
 refine ⟨⟨_, pqY⟩, ?_⟩
 rw [hSb, hSe]
 refine WM_nil (WQ_code (WCr (WLa Z (WL_nil (WQ_code (WC_ret ?_))))))
 refine WQ1 Z (by
   exact ⟨es1, mc1, rfl, hM1, rfl⟩) pqY
theorem alB_last (b : Br) (now : Nat) : (alB b now).last = now := by unfold alB; split <;> (try split) <;> rfl
theorem alB_gen (b : Br) (now : Nat) : b.gen ≤ (alB b now).gen := by unfold alB; split <;> (try split) <;> (dsimp only; omega)
theorem dnK_last (b : Br) (now : Nat) (gn : Int) (good : Bool) : (dnK b now gn good).last = now := by unfold dnK dnB; (repeat' split) <;> rfl
theorem dnK_gen (b : Br) (now : Nat) (gn : Int) (good : Bool) : b.gen ≤ (dnK b now gn good).gen := by unfold dnK dnB; (repeat' split) <;> first | exact Int.le_refl _ | (dsimp only; omega)
theorem fit_dnK {b : Br} (hf : Fit b) (hg : b.gen ≤ 900000) {now : Nat} (h : b.last ≤ now ∧ now ≤ 18446744073709551614) (gn : Int) (good : Bool) : Fit (dnK b now gn good) ∧ (dnK b now gn good).gen ≤ b.gen + 1 := by
 unfold dnK
 split
 ·exact fit_dn hf hg h good
 ·exact ⟨fit_last hf h, by dsimp only; omega⟩
theorem turnN_lt {n : Nat} {i : Int} (h0 : 0 ≤ i) (h : i < n) : turnN n i < n := by unfold turnN; split <;> omega
theorem pickS_len (k : Nat) (L : List Bk) (now : Nat) (l : List Int) (i : Nat) : (pickS k L now l i).length = L.length := by unfold pickS; rw [List.length_set, pickL_len]
theorem BalIs.pick {N : Nat} {m : Bm} {C : List Cl} (hm : BalIs N m C) (hN : N ≤ 9000) {now : Nat} (h1 : m.last ≤ now) (h2 : now ≤ 18446744073709551614) {i : Nat} {x : Bk} (hx : m.L[i]? = some x) (hr : rdB x.b now)
  (hne : cand m.L now ≠ []) {es : Array MapEntry} {mc : Nat} (mp : Mp (.int .i64) ekI evC es ((((m.gv + 1 : Nat) : Int), ((i : Int), (alB x.b now).gen)) :: C)) :
  BalIs (N + 1) { m with L := pickS m.k m.L now (cand m.L now) i, nx := pickN m.k m.n m.nx (cand m.L now), gv := m.gv + 1, last := now, es := es, mc := mc } ((((m.gv + 1 : Nat) : Int), ((i : Int), (alB x.b now).gen)) :: C) := by
 have hin : ∀ a ∈ cand m.L now, ∃ (i : Nat) (x : Bk), a = (i : Int) ∧ m.L[i]? = some x := fun a ha => by
  obtain ⟨i, x, h1, h2, _⟩ := cand_mem ha
  exact ⟨i, x, h1, h2⟩
 have hlb : (cand m.L now).length ≤ 64 := Nat.le_trans (candK_len _ _ _) (by rw [hm.hn]; exact hm.n.2)
 have hil := (List.getElem?_eq_some_iff.1 hx).1
 have hfx := hm.fit x (List.mem_of_getElem? hx)
 have hal := fit_al hfx.1 (by have := hfx.2.2; omega) ⟨Nat.le_trans hfx.2.1 h1, h2⟩ hr
 have hag := alB_gen x.b now
 have key : ∀ {j : Nat} {z : Bk}, (pickS m.k m.L now (cand m.L now) i)[j]? = some z → ∃ y, m.L[j]? = some y ∧ z.w = y.w ∧ y.sh - 6400 ≤ z.sh ∧ z.sh ≤ y.sh + 6400 ∧ y.act ≤ z.act ∧ z.act ≤ y.act + 1 ∧ (z.b = y.b ∨ (y = x ∧ z.b = alB x.b now)) := by
  intro j z hz
  unfold pickS at hz
  obtain ⟨y9, hy9⟩ := getE (T := pickL m.k m.L (cand m.L now)) (i := i) (by rw [pickL_len]; exact hil)
  obtain ⟨x', hx', e1, b1, b2⟩ := pickL_get hm.w hin hy9
  obtain rfl : x' = x := by rw [hx] at hx'; exact (Option.some.inj hx').symm
  rw [gB_at hy9, gB_at hx, List.getElem?_set] at hz
  split at hz
  ·rename_i e
   subst e
   split at hz
   ·obtain rfl := Option.some.inj hz
    refine ⟨x', hx, ?_, by dsimp only; omega, by dsimp only; omega, by dsimp only; omega, by dsimp only; omega, .inr ⟨rfl, rfl⟩⟩
    dsimp only; rw [e1]
   ·cases hz
  ·obtain ⟨y, hy, e2, c1, c2⟩ := pickL_get hm.w hin hz
   exact ⟨y, hy, by rw [e2], by omega, by omega, by rw [e2]; exact Int.le_refl _, by rw [e2]; dsimp only; omega, .inl (by rw [e2])⟩
 have keym : ∀ z ∈ pickS m.k m.L now (cand m.L now) i, ∃ y ∈ m.L, z.w = y.w ∧ y.sh - 6400 ≤ z.sh ∧ z.sh ≤ y.sh + 6400 ∧ y.act ≤ z.act ∧ z.act ≤ y.act + 1 ∧ (z.b = y.b ∨ (y = x ∧ z.b = alB x.b now)) := fun z hz => by
  obtain ⟨j, hj⟩ := List.mem_iff_getElem?.1 hz
  obtain ⟨y, hy, h⟩ := key hj
  exact ⟨y, List.mem_of_getElem? hy, h⟩
 refine ⟨by dsimp only; rw [pickS_len]; exact hm.hn, own_L hm.own (pickS_len ..), mp, hm.k, hm.n, ?_, ?_, ?_, ?_, ?_, ?_, ?_, ?_, ?_, ?_, h2⟩
 ·intro z hz
  obtain ⟨y, hy, _, _, _, _, _, hb⟩ := keym z hz
  have hfy := hm.fit y hy
  rcases hb with hb | ⟨_, hb⟩
  ·rw [hb]; exact ⟨hfy.1, Nat.le_trans hfy.2.1 h1, by have := hfy.2.2; omega⟩
  ·rw [hb, alB_last]; exact ⟨hal.1, Nat.le_refl _, by have := hfx.2.2; have := hal.2; omega⟩
 ·intro z hz
  obtain ⟨y, hy, e, _⟩ := keym z hz
  rw [e]; exact hm.w y hy
 ·intro z hz
  obtain ⟨y, hy, _, b1, b2, _⟩ := keym z hz
  have := hm.sh y hy
  omega
 ·intro z hz
  obtain ⟨y, hy, _, _, _, b1, b2, _⟩ := keym z hz
  have := hm.act y hy
  omega
 ·show pickN m.k m.n m.nx (cand m.L now) < m.n
  unfold pickN
  split
  ·obtain ⟨j, z, e, hz, _⟩ := cand_mem (turn_mem (nx := m.nx) hne)
   have := (List.getElem?_eq_some_iff.1 hz).1
   rw [hm.hn] at this
   exact turnN_lt (by omega) (by omega)
  ·exact hm.nx
 ·have := hm.gv; dsimp only; omega
 ·have := hm.cl; rw [List.length_cons]; omega
 ·intro c hc
  rcases List.mem_cons.1 hc with rfl | hc
  ·dsimp only; omega
  ·have := hm.ky c hc; dsimp only; omega
 ·intro c hc
  rcases List.mem_cons.1 hc with rfl | hc
  ·dsimp only; rw [← hm.hn]; omega
  ·exact hm.bk c hc
 ·intro c hc
  rcases List.mem_cons.1 hc with rfl | hc
  ·refine ⟨by have := hfx.1.gen; dsimp only; omega, fun z hz => ?_⟩
   dsimp only at hz ⊢
   rw [Int.toNat_natCast] at hz
   obtain ⟨y, hy, _, _, _, _, _, hb⟩ := key hz
   obtain rfl : y = x := by rw [hx] at hy; exact (Option.some.inj hy).symm
   unfold pickS at hz
   obtain ⟨y9, hy9⟩ := getE (T := pickL m.k m.L (cand m.L now)) (i := i) (by rw [pickL_len]; exact hil)
   rw [List.getElem?_set, if_pos rfl, if_pos (by rw [pickL_len]; exact hil), gB_at hx] at hz
   obtain rfl := Option.some.inj hz
   exact Int.le_refl _
  ·refine ⟨(hm.gn c hc).1, fun z hz => ?_⟩
   obtain ⟨y, hy, _, _, _, _, _, hb⟩ := key hz
   have := (hm.gn c hc).2 y hy
   rcases hb with hb | ⟨rfl, hb⟩ <;> rw [hb] <;> omega
theorem delL_mem {C : List Cl} {n : Int} {c : Cl} (h : c ∈ delL C n) : c ∈ C := (List.mem_filter.1 h).1
theorem doneS_len (L : List Bk) (now j : Nat) (gn : Int) (good : Bool) : (doneS L now j gn good).length = L.length := by unfold doneS; rw [List.length_set]
theorem BalIs.done {N : Nat} {m : Bm} {C : List Cl} (hm : BalIs N m C) (hN : N ≤ 9000) {now : Nat} (h1 : m.last ≤ now) (h2 : now ≤ 18446744073709551614) {n : Int} {j : Nat} {gn : Int} {good : Bool} {x : Bk} (hx : m.L[j]? = some x)
  {es : Array MapEntry} {mc : Nat} (mp : Mp (.int .i64) ekI evC es (delL C n)) : BalIs (N + 1) { m with L := doneS m.L now j gn good, last := now, es := es, mc := mc } (delL C n) := by
 have hfx := hm.fit x (List.mem_of_getElem? hx)
 have hal := fit_dnK hfx.1 (by have := hfx.2.2; omega) ⟨Nat.le_trans hfx.2.1 h1, h2⟩ gn good
 have hag := dnK_gen x.b now gn good
 have key : ∀ {i : Nat} {z : Bk}, (doneS m.L now j gn good)[i]? = some z → ∃ y, m.L[i]? = some y ∧ z.w = y.w ∧ z.sh = y.sh ∧ y.act - 1 ≤ z.act ∧ z.act ≤ y.act ∧ (z.b = y.b ∨ (y = x ∧ z.b = dnK x.b now gn good)) := by
  intro i z hz
  unfold doneS at hz
  rw [gB_at hx, List.getElem?_set] at hz
  split at hz
  ·rename_i e
   subst e
   split at hz
   ·obtain rfl := Option.some.inj hz
    exact ⟨x, hx, rfl, rfl, by dsimp only; omega, by dsimp only; omega, .inr ⟨rfl, rfl⟩⟩
   ·cases hz
  ·exact ⟨z, hz, rfl, rfl, by omega, by omega, .inl rfl⟩
 have keym : ∀ z ∈ doneS m.L now j gn good, ∃ y ∈ m.L, z.w = y.w ∧ z.sh = y.sh ∧ y.act - 1 ≤ z.act ∧ z.act ≤ y.act ∧ (z.b = y.b ∨ (y = x ∧ z.b = dnK x.b now gn good)) := fun z hz => by
  obtain ⟨i, hi⟩ := List.mem_iff_getElem?.1 hz
  obtain ⟨y, hy, h⟩ := key hi
  exact ⟨y, List.mem_of_getElem? hy, h⟩
 refine ⟨by dsimp only; rw [doneS_len]; exact hm.hn, own_L hm.own (doneS_len ..), mp, hm.k, hm.n, ?_, ?_, ?_, ?_, hm.nx, Nat.le_succ_of_le hm.gv, ?_, fun c hc => hm.ky c (delL_mem hc), fun c hc => hm.bk c (delL_mem hc), ?_, h2⟩
 ·intro z hz
  obtain ⟨y, hy, _, _, _, _, hb⟩ := keym z hz
  have hfy := hm.fit y hy
  rcases hb with hb | ⟨_, hb⟩
  ·rw [hb]; exact ⟨hfy.1, Nat.le_trans hfy.2.1 h1, by have := hfy.2.2; omega⟩
  ·rw [hb, dnK_last]; exact ⟨hal.1, Nat.le_refl _, by have := hfx.2.2; have := hal.2; omega⟩
 ·intro z hz
  obtain ⟨y, hy, e, _⟩ := keym z hz
  rw [e]; exact hm.w y hy
 ·intro z hz
  obtain ⟨y, hy, _, e, _⟩ := keym z hz
  have := hm.sh y hy
  rw [e]; omega
 ·intro z hz
  obtain ⟨y, hy, _, _, b1, b2, _⟩ := keym z hz
  have := hm.act y hy
  omega
 ·exact Nat.le_trans (List.length_filter_le _ _) (Nat.le_succ_of_le hm.cl)
 ·intro c hc
  refine ⟨(hm.gn c (delL_mem hc)).1, fun z hz => ?_⟩
  obtain ⟨y, hy, _, _, _, _, hb⟩ := key hz
  have := (hm.gn c (delL_mem hc)).2 y hy
  rcases hb with hb | ⟨rfl, hb⟩ <;> rw [hb] <;> omega
theorem BalIs.le {N N2 : Nat} {m : Bm} {C : List Cl} (hm : BalIs N m C) (h : N ≤ N2) : BalIs N2 m C :=
 ⟨hm.hn, hm.own, hm.mp, hm.k, hm.n, fun x hx => ⟨(hm.fit x hx).1, (hm.fit x hx).2.1, by have := (hm.fit x hx).2.2; omega⟩, hm.w, fun x hx => by have := hm.sh x hx; omega, fun x hx => by have := hm.act x hx; omega, hm.nx, Nat.le_trans hm.gv h, Nat.le_trans hm.cl h, hm.ky, hm.bk, hm.gn, hm.last⟩
end Go.Proofs.YtelmlkdibcdebaaGreat
