/-
  Chapter 46 (pool), part QueL: contracts of functions that the laws call, each for the heap it names.
-/
import Derived.Test.YteofigbgdbpjgaaTells
set_option linter.unusedVariables false
set_option maxRecDepth 20000
namespace Go.Proofs.Yteofigbgdbpjgaa


abbrev rp63 : List Cn := List.replicate 63 ⟨0, 0, 0⟩
abbrev qS (x : Cn) (Q : List Qp) (n : Nat) (E : List Pv) : PS := ⟨1, 0, 18446744073709551615, 0, x :: List.replicate 63 ⟨0, 0, 0⟩, Q, n, E⟩
/-- Who wait: from a + 1 to b. -/
def wQ (a b : Nat) : List Qp := (List.range (b - a)).map (fun j => ⟨a + 1 + j, ((a + 1 + j : Nat) : Int), 18446744073709551615⟩)
theorem wQ_self (a : Nat) : wQ a a = [] := by unfold wQ; rw [Nat.sub_self]; rfl
theorem wQ_snoc {a b : Nat} (h : a ≤ b) : wQ a (b + 1) = wQ a b ++ [⟨b + 1, ((b + 1 : Nat) : Int), 18446744073709551615⟩] := by
  unfold wQ
  rw [show b + 1 - a = (b - a) + 1 from by omega, List.range_succ, List.map_append, List.map_singleton, show a + 1 + (b - a) = b + 1 from by omega]
theorem wQ_cons {a b : Nat} (h : a < b) : wQ a b = ⟨a + 1, ((a + 1 : Nat) : Int), 18446744073709551615⟩ :: wQ (a + 1) b := by
  unfold wQ
  rw [show b - a = (b - (a + 1)) + 1 from by omega, List.range_succ_eq_map, List.map_cons, List.map_map]
  refine congrArg _ (List.map_congr_left fun j _ => ?_)
  show (⟨a + 1 + (j + 1), _, _⟩ : Qp) = ⟨a + 1 + 1 + j, _, _⟩
  rw [show a + 1 + (j + 1) = a + 1 + 1 + j from by omega]
theorem wQ_len (a b : Nat) : (wQ a b).length = b - a := by unfold wQ; rw [List.length_map, List.length_range]
theorem wQ_who {b : Nat} {x : Qp} (h : x ∈ wQ 0 b) : x.who ≤ (b : Int) := by
  unfold wQ at h
  obtain ⟨j, hj, rfl⟩ := List.mem_map.1 h
  rw [List.mem_range] at hj
  show ((0 + 1 + j : Nat) : Int) ≤ _
  omega
theorem q_new : PS.new 1 0 18446744073709551615 = qS ⟨0, 0, 0⟩ [] 0 [] := by kernel_rfl
theorem q_first : getE_ (qS ⟨0, 0, 0⟩ [] 0 []) 0 0 18446744073709551615 = 0 ∧ (qS ⟨0, 0, 0⟩ [] 0 []).getV 0 0 18446744073709551615 = ⟨2, 0, 0⟩ ∧ (qS ⟨0, 0, 0⟩ [] 0 []).getS 0 0 18446744073709551615 = qS ⟨1, 0, 0⟩ [] 0 [] := ⟨by kernel_rfl, by kernel_rfl, by kernel_rfl⟩
theorem q_wait (i : Nat) (h : i < 200) : getE_ (qS ⟨1, 0, 0⟩ (wQ 0 i) i []) ((i + 1 : Nat) : Int) 0 18446744073709551615 = 0 ∧ (qS ⟨1, 0, 0⟩ (wQ 0 i) i []).getV ((i + 1 : Nat) : Int) 0 18446744073709551615 = ⟨3, ((i + 1 : Nat) : Int), -1⟩ ∧ (qS ⟨1, 0, 0⟩ (wQ 0 i) i []).getS ((i + 1 : Nat) : Int) 0 18446744073709551615 = qS ⟨1, 0, 0⟩ (wQ 0 (i + 1)) (i + 1) [] := by
  have he : getE_ (qS ⟨1, 0, 0⟩ (wQ 0 i) i []) ((i + 1 : Nat) : Int) 0 18446744073709551615 = 0 := getE_ok (may_fine (decide_eq_true (by omega)) (by show ¬ (0 < 0 ∨ 0 = 18446744073709551615); decide)) (by omega)
    (List.any_eq_false.2 fun x hx => by have := wQ_who hx; simp only [decide_eq_true_eq]; omega)
    (by
      show (List.any ((⟨1, 0, 0⟩ : Cn) :: rp63) _) = false
      rw [List.any_cons, List.any_replicate]
      simp
      omega)
  have h2 := get_wait he (by kernel_rfl : allI 3 ((⟨1, 0, 0⟩ : Cn) :: rp63) = []) (by kernel_rfl)
  exact ⟨he, h2.2, by rw [h2.1, wQ_snoc (Nat.zero_le _)]⟩
theorem q_made (Q : List Qp) (n : Nat) (w : Int) : (qS ⟨1, w, 0⟩ Q n []).inE 0 1 0 = 0 ∧ (qS ⟨1, w, 0⟩ Q n []).dialed 0 true 0 = qS ⟨2, 0, 0⟩ Q n [] := by
  have h : (qS ⟨1, w, 0⟩ Q n []).inE (0 : Nat) 1 0 = 0 := by kernel_rfl
  exact ⟨h, by rw [show (0 : Int) = ((0 : Nat) : Int) from rfl, dialed_made h]; rfl⟩
theorem q_put (Q : List Qp) (n : Nat) : (qS ⟨2, 0, 0⟩ Q n []).inE 0 2 0 = 0 := by kernel_rfl
theorem q_good (x : Qp) (Q : List Qp) (n : Nat) : (qS ⟨2, 0, 0⟩ (x :: Q) n []).put 0 true 0 = qS ⟨2, 0, 0⟩ Q n [⟨1, x.who, 0⟩] := by
  have h : (qS ⟨2, 0, 0⟩ (x :: Q) n []).inE (0 : Nat) 2 0 = 0 := by kernel_rfl
  exact (put_use h rfl).trans (by kernel_rfl)
theorem q_bad (x : Qp) (Q : List Qp) (n : Nat) : (qS ⟨2, 0, 0⟩ (x :: Q) n []).put 0 false 0 = qS ⟨1, x.who, 0⟩ Q n [⟨5, -1, 0⟩, ⟨2, x.who, 0⟩] := by
  have h : (qS ⟨2, 0, 0⟩ (x :: Q) n []).inE (0 : Nat) 2 0 = 0 := by kernel_rfl
  refine (put_bad h).trans ?_
  show PS.next _ = _
  rw [PS.next_ok (x := x) (r := Q) rfl (by kernel_rfl)]
  kernel_rfl
theorem q_last (n : Nat) : (qS ⟨2, 0, 0⟩ [] n []).put 0 true 0 = qS ⟨0, 0, 0⟩ [] n [⟨5, -1, 0⟩] := by
  have h : (qS ⟨2, 0, 0⟩ [] n []).inE (0 : Nat) 2 0 = 0 := by kernel_rfl
  exact (put_over h rfl (by rw [show (allI 3 (qS ⟨2, 0, 0⟩ [] n []).C) = [] from by kernel_rfl]; exact Nat.not_lt_zero _)).trans (by kernel_rfl)
theorem q_cnt (Q : List Qp) (n : Nat) : (qS ⟨2, 0, 0⟩ Q n []).cnt 2 = 1 ∧ (qS ⟨2, 0, 0⟩ Q n []).cnt 1 = 0 ∧ (qS ⟨2, 0, 0⟩ Q n []).cnt 3 = 0 := ⟨by kernel_rfl, by kernel_rfl, by kernel_rfl⟩
theorem q_cnt0 (n : Nat) : (qS ⟨0, 0, 0⟩ [] n []).cnt 2 = 0 ∧ (qS ⟨0, 0, 0⟩ [] n []).cnt 1 = 0 ∧ (qS ⟨0, 0, 0⟩ [] n []).cnt 3 = 0 := ⟨by kernel_rfl, by kernel_rfl, by kernel_rfl⟩
structure QuW where
  i : Nat
  m : PM

end Go.Proofs.Yteofigbgdbpjgaa
