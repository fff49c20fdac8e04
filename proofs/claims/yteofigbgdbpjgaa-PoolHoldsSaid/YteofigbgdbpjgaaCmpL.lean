/-
  Chapter 46 (pool), part CmpL: contracts of functions that the laws call, each for the heap it names.
-/
import Derived.Test.YteofigbgdbpjgaaZA
set_option linter.unusedVariables false
set_option maxRecDepth 20000
namespace Go.Proofs.Yteofigbgdbpjgaa


abbrev encI (v : Int) : List Value := [.int .i64 v]
abbrev ivs (l : List Int) : List Value := l.flatMap encI
theorem encI1 (v : Int) : (encI v).length = 1 := rfl
theorem ivs_len (l : List Int) : (ivs l).length = l.length := by rw [fm_length encI1]; omega
theorem ivs_one (l : List Int) : (ivs l).all Value.oneCell' = true := fm_all (fun _ => rfl) l
def cmpI (a b : Int) : Int := if a < b then -1 else if b < a then 1 else 0
def orL : List Int → Int
  | [] => 0
  | x :: r => if x ≠ 0 then x else orL r
theorem orL_drop {l : List Int} : ∀ {k : Nat}, (∀ v ∈ l.take k, v = 0) → orL l = orL (l.drop k) := by
  induction l with
  | nil => intro k _; simp [orL]
  | cons x r ih =>
    intro k h
    cases k with
    | zero => rfl
    | succ k =>
      have h0 : x = 0 := h x (by simp)
      rw [orL, if_neg (by rw [h0]; simp), List.drop_succ_cons]
      exact ih fun v hv => h v (by simp [hv])
theorem orL_hit {l : List Int} {k : Nat} {x : Int} (h : ∀ v ∈ l.take k, v = 0) (hx : l[k]? = some x) (hn : x ≠ 0) : orL l = x := by
  rw [orL_drop h]
  obtain ⟨h1, h2⟩ := List.getElem?_eq_some_iff.1 hx
  rw [List.drop_eq_getElem_cons h1, h2, orL, if_pos hn]
theorem orL_none {l : List Int} {k : Nat} (h : ∀ v ∈ l.take k, v = 0) (hk : l.length ≤ k) : orL l = 0 := by
  rw [orL_drop h, List.drop_eq_nil_of_le hk]; rfl
theorem take_next {α : Type} {l : List α} {k : Nat} {x : α} (h : l[k]? = some x) : l.take (k + 1) = l.take k ++ [x] := by
  obtain ⟨h2, rfl⟩ := List.getElem?_eq_some_iff.1 h
  rw [List.take_append_getElem]
theorem getE {α : Type} {T : List α} {i : Nat} (h : i < T.length) : ∃ x, T[i]? = some x := ⟨_, List.getElem?_eq_getElem h⟩
/-- Where the first one is that a test lets through. -/
def idxF (p : Int → Bool) : List Int → Int
  | [] => -1
  | x :: r => if p x = true then 0 else if idxF p r = -1 then -1 else idxF p r + 1
theorem idxF_hit {p : Int → Bool} {x : Int} : ∀ {l : List Int} {k : Nat}, (∀ v ∈ l.take k, p v = false) → l[k]? = some x → p x = true → idxF p l = k
  | [], k, _, hx, _ => by simp at hx
  | y :: r, 0, _, hx, hp => by simp at hx; subst hx; simp [idxF, hp]
  | y :: r, k + 1, h, hx, hp => by
    have h1 : p y = false := h y (by simp)
    have ih := idxF_hit (l := r) (k := k) (fun v hv => h v (by simp [hv])) (by simpa using hx) hp
    rw [idxF, if_neg (by rw [h1]; simp), ih, if_neg (by omega)]; omega
theorem idxF_none {p : Int → Bool} : ∀ {l : List Int}, (∀ v ∈ l, p v = false) → idxF p l = -1
  | [], _ => rfl
  | y :: r, h => by
    rw [idxF, if_neg (by rw [h y (by simp)]; simp), if_pos (idxF_none fun v hv => h v (by simp [hv]))]
theorem take_ne {α : Type} {l : List α} {k : Nat} (h1 : 1 ≤ k) (h2 : k ≤ l.length) : l.take k ≠ [] := fun e => by
  have := congrArg List.length e
  rw [List.length_take, List.length_nil] at this
  omega
/-- The first one that no other one beats. -/
def sel (q : Int → Int → Bool) : List Int → Int
  | [] => 0
  | x :: r => r.foldl (fun m a => if q a m = true then a else m) x
theorem sel_next (q : Int → Int → Bool) {l : List Int} (h : l ≠ []) (a : Int) : sel q (l ++ [a]) = if q a (sel q l) = true then a else sel q l := by
  cases l with
  | nil => exact absurd rfl h
  | cons x r =>
    show (r ++ [a]).foldl _ x = _
    rw [List.foldl_append]; rfl
theorem sel_mem (q : Int → Int → Bool) : ∀ {l : List Int}, l ≠ [] → sel q l ∈ l
  | [], h => absurd rfl h
  | x :: r, _ => by
    show r.foldl _ x ∈ x :: r
    have key : ∀ (r : List Int) (x : Int), r.foldl (fun m a => if q a m = true then a else m) x = x ∨ r.foldl (fun m a => if q a m = true then a else m) x ∈ r := by
      intro r
      induction r with
      | nil => intro x; exact .inl rfl
      | cons y r ih =>
        intro x
        rw [List.foldl_cons]
        rcases ih (if q y x = true then y else x) with e | e
        · rw [e]
          split
          · exact .inr (List.mem_cons_self ..)
          · exact .inl rfl
        · exact .inr (List.mem_cons_of_mem _ e)
    rcases key r x with e | e
    · rw [e]; exact List.mem_cons_self ..
    · exact List.mem_cons_of_mem _ e
theorem sel_one (q : Int → Int → Bool) (x : Int) : sel q [x] = x := rfl
theorem sel_congr {q q' : Int → Int → Bool} : ∀ {l : List Int}, (∀ a ∈ l, ∀ b ∈ l, q a b = q' a b) → sel q l = sel q' l
  | [], _ => rfl
  | x :: r, h => by
    show r.foldl _ x = r.foldl _ x
    have key : ∀ (s : List Int) (y : Int), (∀ v ∈ s, v ∈ x :: r) → y ∈ x :: r → s.foldl (fun m a => if q a m = true then a else m) y = s.foldl (fun m a => if q' a m = true then a else m) y := by
      intro s
      induction s with
      | nil => intro y _ _; rfl
      | cons z s ih =>
        intro y hs hy
        rw [List.foldl_cons, List.foldl_cons, h z (hs z (by simp)) y hy]
        refine ih _ (fun v hv => hs v (by simp [hv])) ?_
        split
        · exact hs z (by simp)
        · exact hy
    exact key r x (fun v hv => by simp [hv]) (by simp)
structure SelW where
  i : Nat
  m : Int

end Go.Proofs.Yteofigbgdbpjgaa
