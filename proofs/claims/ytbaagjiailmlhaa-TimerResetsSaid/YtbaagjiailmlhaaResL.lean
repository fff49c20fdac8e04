/-
  Chapter 03 (timer), part ResL: contracts of functions that the laws call, each for the heap it names.
-/
import Derived.Test.YtbaagjiailmlhaaHoldL
set_option linter.unusedVariables false
set_option maxRecDepth 20000
namespace Go.Proofs.Ytbaagjiailmlhaa


def setT (at_ : Nat) (t : Tm) : Tm := { t with tm := at_ }
theorem live_rmL (L : List Tm) (k : Nat) : live (rmL L k) = (live L).filter (fun u => decide (u.n ≠ k)) := by
  rw [live, live, rmL, List.filter_map, List.filter_filter]
  have e : L.filter ((fun t : Tm => !t.gone) ∘ rm1 k) = L.filter (fun a => decide (a.n ≠ k) && !a.gone) := List.filter_congr fun u _ => by
    simp only [Function.comp, rm1_gone]
    by_cases h : u.n = k <;> cases u.gone <;> simp [h]
  rw [e]
  conv => rhs; rw [← List.map_id (L.filter _)]
  refine List.map_congr_left fun u hu => ?_
  rw [List.mem_filter, Bool.and_eq_true] at hu
  unfold rm1
  rw [if_neg (fun h => (of_decide_eq_true hu.2.1) h.2)]; rfl
theorem head_live : ∀ {L : List Tm} {i : Nat} {t : Tm}, L[i]? = some t → t.gone = false → (∀ (j : Nat) (u : Tm), L[j]? = some u → u.gone = false → i ≤ j) → ∃ r, live L = t :: r
  | [], _, _, h, _, _ => by cases h
  | x :: L, i, t, h, hg, hm => by
    cases hx : x.gone with
    | false =>
      have := hm 0 x rfl hx
      have e : i = 0 := by omega
      subst e
      simp only [List.getElem?_cons_zero, Option.some.injEq] at h
      subst h
      exact ⟨live L, by simp [live, hx]⟩
    | true =>
      cases i with
      | zero =>
        simp only [List.getElem?_cons_zero, Option.some.injEq] at h
        subst h
        rw [hg] at hx; cases hx
      | succ i =>
        obtain ⟨r, hr⟩ := head_live (L := L) (i := i) (t := t) (by simpa using h) hg (fun j u hj hu => by
          have := hm (j + 1) u (by simpa using hj) hu
          omega)
        exact ⟨r, by simp only [live, List.filter_cons, hx]; simpa using hr⟩
theorem eL_same {now : Nat} : ∀ (k : Nat) (L : List Tm) (gv : List Nat) (n : Nat), TRel L gv n → (live L).length = k → (∀ t ∈ L, t.gone = false → t.tm = now) → (eL now L).2 = live L ∧ live (eL now L).1 = [] := by
  intro k
  induction k with
  | zero =>
    intro L gv n r hk _
    have := List.eq_nil_of_length_eq_zero hk
    rw [eL, this]; exact ⟨rfl, this⟩
  | succ k ih =>
    intro L gv n r hk ha
    cases h : fstP L with
    | none => rw [live_none h] at hk; cases hk
    | some x =>
      obtain ⟨i, t⟩ := x
      have hf := fstP_some h
      have htn := ha t (List.mem_of_getElem? hf.at_) hf.g
      obtain ⟨rest, hr⟩ := head_live hf.at_ hf.g (fun j u hj hu => by
        have h1 := hf.min j u hj hu
        have h2 := ha u (List.mem_of_getElem? hj) hu
        omega)
      have hn : ((live L).map (fun u => u.n)).Nodup := by
        rw [List.Nodup, List.pairwise_map]
        refine List.Pairwise.imp (R := fun a b => a ∈ live L ∧ b ∈ live L ∧ a.sq < b.sq ∧ (a.n = b.n → a.gen < b.gen)) ?_ (List.Pairwise.and_mem.1 (r.inc.filter (fun t => !t.gone)))
        rintro a b ⟨ha2, hb2, h1, h2⟩ e
        have e1 := r.last a (mem_live.1 ha2).1 (mem_live.1 ha2).2
        have e2 := r.last b (mem_live.1 hb2).1 (mem_live.1 hb2).2
        have := h2 e
        rw [e] at e1; omega
      rw [hr, List.map_cons, List.nodup_cons] at hn
      have hrest : live (rmL L t.n) = rest := by
        rw [live_rmL, hr, List.filter_cons]
        simp only [ne_eq, not_true_eq_false, decide_false, Bool.false_eq_true, if_false]
        exact List.filter_eq_self.2 fun u hu => decide_eq_true (fun e => hn.1 (List.mem_map.2 ⟨u, hu, e⟩))
      have hlen : rest.length = k := by
        rw [hr, List.length_cons] at hk; omega
      obtain ⟨h1, h2⟩ := ih (rmL L t.n) gv n (r.rm _) (by rw [hrest]; exact hlen) (fun u hu hg => ha u (rm_mem hu hg).1 hg)
      rw [eL_le r h (by omega), hr]
      exact ⟨by dsimp only; rw [h1, hrest], h2⟩
def rsL (L : List Tm) (at_ i : Nat) : List Tm := L.take (L.length - i) ++ (L.drop (L.length - i)).map (setT at_)
theorem rsL_len (L : List Tm) (at_ i : Nat) : (rsL L at_ i).length = L.length := by
  rw [rsL, List.length_append, List.length_map, List.length_take, List.length_drop]; omega
theorem rsL_get (L : List Tm) (at_ i j : Nat) : (rsL L at_ i)[j]? = if j < L.length - i then L[j]? else (L[j]?).map (setT at_) := by
  rw [rsL]
  by_cases h : j < L.length - i
  · rw [if_pos h, List.getElem?_append_left (by rw [List.length_take]; omega), List.getElem?_take_of_lt h]
  · rw [if_neg h, List.getElem?_append_right (by rw [List.length_take]; omega), List.getElem?_map, List.getElem?_drop, List.length_take]
    congr 2; omega
theorem rsL_zero (L : List Tm) (at_ : Nat) : rsL L at_ 0 = L := by simp [rsL]
theorem rsL_all (L : List Tm) (at_ : Nat) : rsL L at_ L.length = L.map (setT at_) := by simp [rsL]
theorem rsL_step {L : List Tm} {gv : List Nat} {n at_ i : Nat} {t : Tm} (r : TRel (rsL L at_ i) gv n) (hi : i < L.length) (ht : L[L.length - 1 - i]? = some t) (hg : t.gone = false) : chgL (rsL L at_ i) t.n at_ = rsL L at_ (i + 1) := by
  have h1 : (rsL L at_ i)[L.length - 1 - i]? = some t := by rw [rsL_get, if_pos (by omega)]; exact ht
  rw [chgL_set r h1 hg]
  apply List.ext_getElem?
  intro j
  rw [List.getElem?_set, rsL_len, rsL_get, rsL_get]
  by_cases e : L.length - 1 - i = j
  · subst e
    rw [if_pos rfl, if_pos (by omega), if_neg (by omega), ht]; rfl
  · rw [if_neg e]
    by_cases h2 : j < L.length - i
    · rw [if_pos h2, if_pos (by omega)]
    · rw [if_neg h2, if_neg (by omega)]
theorem map_set_mem {L : List Tm} {at_ : Nat} (h : ∀ t ∈ L, t.gone = false) : (∀ t ∈ L.map (setT at_), t.gone = false ∧ t.tm = at_) ∧ live (L.map (setT at_)) = L.map (setT at_) := by
  have h1 : ∀ t ∈ L.map (setT at_), t.gone = false ∧ t.tm = at_ := fun t ht => by
    obtain ⟨u, hu, rfl⟩ := List.mem_map.1 ht
    exact ⟨h u hu, rfl⟩
  exact ⟨h1, List.filter_eq_self.2 fun t ht => by rw [(h1 t ht).1]; rfl⟩
abbrev encT (x : Nat) : List Value := [.int .u64 (x : Int)]
theorem encT1 (x : Nat) : (encT x).length = 1 := rfl
structure RW3 where
  k : Nat
  L : List Tm
  m : TmM
  ow : Option Nat
  cw : Nat
  tw : List Value
structure RX3 where
  i : Nat
  m : TmM

end Go.Proofs.Ytbaagjiailmlhaa
