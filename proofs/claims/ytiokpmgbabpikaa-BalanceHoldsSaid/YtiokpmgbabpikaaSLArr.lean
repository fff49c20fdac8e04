/-
  Arrays of structs: cells that a list of data reads as.
-/
import Derived.Test.YtiokpmgbabpikaaSLRange
namespace Go.Proofs.Ytiokpmgbabpikaa
section
variable {α : Type} {enc : α → List Value} {k : Nat}
theorem fm_length (hk : ∀ x, (enc x).length = k) (T : List α) : (T.flatMap enc).length = T.length * k := by
  induction T with
  | nil => simp
  | cons x T ih => simp only [List.flatMap_cons, List.length_append, hk, ih, List.length_cons, Nat.add_mul]; omega
theorem fm_get (hk : ∀ x, (enc x).length = k) {T : List α} {i : Nat} {x : α} (h : T[i]? = some x) {j : Nat} (hj : j < k) (tl : List Value) : (T.flatMap enc ++ tl)[i * k + j]? = (enc x)[j]? := by
  induction T generalizing i with
  | nil => simp at h
  | cons y T ih =>
    rw [List.flatMap_cons, List.append_assoc]
    cases i with
    | zero =>
      simp at h; subst h
      rw [Nat.zero_mul, Nat.zero_add, List.getElem?_append_left (by rw [hk]; exact hj)]
    | succ i =>
      have := ih (i := i) (by simpa using h)
      rw [List.getElem?_append_right (by rw [hk, Nat.add_mul]; omega), hk, ← this]
      congr 1
      rw [Nat.add_mul]; omega
theorem fm_at (hk : ∀ x, (enc x).length = k) {T : List α} {i : Nat} {x : α} (h : T[i]? = some x) {j : Nat} {vs : List Value} (hv : At (enc x) j vs) (hj : j + vs.length ≤ k) (tl : List Value) : At (T.flatMap enc ++ tl) (i * k + j) vs := by
  intro m v hm
  have hlt := (List.getElem?_eq_some_iff.1 hm).1
  rw [Nat.add_assoc, fm_get hk h (by omega)]
  exact hv m v hm
theorem putAt_append : ∀ (A B : List Value) (m : Nat) (vs : List Value), putAt (A ++ B) (A.length + m) vs = A ++ putAt B m vs
  | [], B, m, vs => by simp
  | c :: A, B, m, vs => by
    rw [List.length_cons, show A.length + 1 + m = (A.length + m) + 1 from by omega, List.cons_append]
    simp only [putAt, putAt_append A B m vs, List.cons_append]
theorem putAt_left : ∀ (A B : List Value) (m : Nat) (vs : List Value), m + vs.length ≤ A.length → putAt (A ++ B) m vs = putAt A m vs ++ B
  | [], B, m, vs, h => by
    have : vs = [] := List.eq_nil_of_length_eq_zero (by simp at h; simp [h.2])
    subst this; simp [putAt_nil, putAt]
  | c :: A, B, 0, [], _ => by simp [putAt]
  | c :: A, B, 0, v :: vs, h => by
    simp only [List.cons_append, putAt]
    rw [putAt_left A B 0 vs (by simp at h ⊢; omega)]
  | c :: A, B, m + 1, vs, h => by
    simp only [List.cons_append, putAt]
    rw [putAt_left A B m vs (by simp at h ⊢; omega)]
theorem fm_put (hk : ∀ x, (enc x).length = k) {T : List α} {i : Nat} {x y : α} (h : T[i]? = some x) {j : Nat} {vs : List Value} (hj : j + vs.length ≤ k) (hy : putAt (enc x) j vs = enc y) (tl : List Value) :
    putAt (T.flatMap enc ++ tl) (i * k + j) vs = (T.set i y).flatMap enc ++ tl := by
  induction T generalizing i with
  | nil => simp at h
  | cons z T ih =>
    rw [List.flatMap_cons, List.append_assoc]
    cases i with
    | zero =>
      simp at h; subst h
      rw [Nat.zero_mul, Nat.zero_add, putAt_left _ _ _ _ (by rw [hk]; exact hj), hy, List.set_cons_zero, List.flatMap_cons, List.append_assoc]
    | succ i =>
      have := ih (i := i) (by simpa using h)
      rw [show (i + 1) * k + j = (enc z).length + (i * k + j) from by rw [hk, Nat.add_mul]; omega, putAt_append, this, List.set_cons_succ, List.flatMap_cons, List.append_assoc]
/-! the same with '0 +' in front, as the walk writes it -/
theorem fm_get0 (hk : ∀ x, (enc x).length = k) {T : List α} {i : Nat} {x : α} (h : T[i]? = some x) {j : Nat} (hj : j < k) {tl : List Value} : (T.flatMap enc ++ tl)[0 + i * k + j]? = (enc x)[j]? := by
  rw [Nat.zero_add]; exact fm_get hk h hj tl
theorem fm_at0 (hk : ∀ x, (enc x).length = k) {T : List α} {i : Nat} {x : α} (h : T[i]? = some x) {j : Nat} {vs : List Value} (hv : At (enc x) j vs) (hj : j + vs.length ≤ k) {tl : List Value} : At (T.flatMap enc ++ tl) (0 + i * k + j) vs := by
  rw [Nat.zero_add]; exact fm_at hk h hv hj tl
theorem fm_put0 (hk : ∀ x, (enc x).length = k) {T : List α} {i : Nat} {x : α} (y : α) (h : T[i]? = some x) {j : Nat} {vs : List Value} (hj : j + vs.length ≤ k) (hy : putAt (enc x) j vs = enc y) {tl : List Value} :
    putAt (T.flatMap enc ++ tl) (0 + i * k + j) vs = (T.set i y).flatMap enc ++ tl := by
  rw [Nat.zero_add]; exact fm_put hk h hj hy tl
theorem fm_room0 (hk : ∀ x, (enc x).length = k) {T : List α} {i : Nat} (h : i < T.length) {j n : Nat} (hj : j + n ≤ k) {tl : List Value} : 0 + i * k + j + n ≤ (T.flatMap enc ++ tl).length := by
  rw [List.length_append, fm_length hk]
  have := Nat.mul_le_mul_right k (show i + 1 ≤ T.length from h)
  rw [Nat.add_mul] at this
  omega
theorem fm_all (h1 : ∀ x, (enc x).all Value.oneCell' = true) (T : List α) : (T.flatMap enc).all Value.oneCell' = true := by
  induction T with
  | nil => rfl
  | cons x T ih => rw [List.flatMap_cons, List.all_append, h1, ih]; rfl
theorem fm_rep (x : α) (n : Nat) : (List.replicate n (enc x)).flatten = (List.replicate n x).flatMap enc := by
  simp [List.flatMap]
end
end Go.Proofs.Ytiokpmgbabpikaa
