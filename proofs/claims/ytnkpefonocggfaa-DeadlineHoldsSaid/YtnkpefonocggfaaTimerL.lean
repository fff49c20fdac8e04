/-
  Chapter 10 (deadline), part TimerL: contracts of functions that the laws call, each for the heap it names.
-/
import Derived.Test.YtnkpefonocggfaaHeapF
set_option linter.unusedVariables false
set_option maxRecDepth 20000
namespace Go.Proofs.Ytnkpefonocggfaa


/-- A timer that was set once; 'sq': when. -/
structure Tm where
  n : Nat
  gen : Nat
  own : Int
  tm : Nat
  gone : Bool
  sq : Nat
abbrev live (L : List Tm) : List Tm := L.filter (fun t => !t.gone)
def toW (t : Tm) : WE := ⟨t.n, t.own, t.tm, t.sq⟩
abbrev wl (L : List Tm) : List WE := (live L).map toW
def cnt (L : List Tm) (k : Nat) : Nat := L.countP (fun t => decide (t.n = k))
structure TRel (L : List Tm) (gv : List Nat) (n : Nat) : Prop where
  gv : ∀ k, cnt L k = gv.getD k 0
  last : ∀ t ∈ L, t.gone = false → t.gen + 1 = cnt L t.n
  inc : L.Pairwise (fun a b => a.sq < b.sq ∧ (a.n = b.n → a.gen < b.gen))
  lt : ∀ t ∈ L, t.gen < cnt L t.n
  le : ∀ t ∈ L, t.sq ≤ n
  ln : L.length ≤ n
theorem trel_new : TRel [] [] 0 := ⟨fun k => rfl, fun t ht => (by cases ht), .nil, fun t ht => (by cases ht), fun t ht => (by cases ht), Nat.le_refl _⟩
theorem mem_live {L : List Tm} {t : Tm} : t ∈ live L ↔ t ∈ L ∧ t.gone = false := by
  rw [List.mem_filter]; cases t.gone <;> simp
theorem mem_wl {L : List Tm} {w : WE} : w ∈ wl L ↔ ∃ t ∈ L, t.gone = false ∧ toW t = w := by
  rw [List.mem_map]
  constructor
  · rintro ⟨t, ht, h⟩; exact ⟨t, (mem_live.1 ht).1, (mem_live.1 ht).2, h⟩
  · rintro ⟨t, ht, hg, h⟩; exact ⟨t, mem_live.2 ⟨ht, hg⟩, h⟩
theorem cnt_pos {L : List Tm} {t : Tm} (h : t ∈ L) : 0 < cnt L t.n := List.countP_pos_iff.2 ⟨t, h, by simp⟩
theorem cnt_le (L : List Tm) (k : Nat) : cnt L k ≤ L.length := List.countP_le_length
theorem TRel.len {L : List Tm} {gv : List Nat} {n : Nat} (r : TRel L gv n) {t : Tm} (h : t ∈ L) : t.n < gv.length := by
  have h1 := cnt_pos h
  rw [r.gv] at h1
  rcases Nat.lt_or_ge t.n gv.length with h2 | h2
  · exact h2
  · rw [List.getD_eq_getElem?_getD, List.getElem?_eq_none_iff.2 h2] at h1; exact absurd h1 (by simp)
theorem TRel.get {L : List Tm} {gv : List Nat} {n k : Nat} (r : TRel L gv n) (h : k < gv.length) : gv[k]? = some (cnt L k) := by
  rw [r.gv, List.getD_eq_getElem?_getD, List.getElem?_eq_getElem h]; rfl
/-- No two timers have one name. -/
theorem TRel.one {L : List Tm} {gv : List Nat} {n : Nat} (r : TRel L gv n) {i j : Nat} {a b : Tm} (hi : L[i]? = some a) (hj : L[j]? = some b) (h1 : a.n = b.n) (h2 : a.gen = b.gen) : i = j := by
  have hp := r.inc
  rw [List.pairwise_iff_getElem] at hp
  obtain ⟨h3, rfl⟩ := List.getElem?_eq_some_iff.1 hi
  obtain ⟨h4, rfl⟩ := List.getElem?_eq_some_iff.1 hj
  rcases Nat.lt_trichotomy i j with e | e | e
  · have := (hp i j h3 h4 e).2 h1; omega
  · exact e
  · have := (hp j i h4 h3 e).2 h1.symm; omega
theorem TRel.liveN {L : List Tm} {gv : List Nat} {n : Nat} (r : TRel L gv n) {i j : Nat} {a b : Tm} (hi : L[i]? = some a) (hj : L[j]? = some b) (ha : a.gone = false) (hb : b.gone = false) (h1 : a.n = b.n) : i = j := by
  refine r.one hi hj h1 ?_
  have e1 := r.last a (List.mem_of_getElem? hi) ha
  have e2 := r.last b (List.mem_of_getElem? hj) hb
  rw [h1] at e1
  omega
/-- The time of the timer with this number is changed. -/
def chg1 (k tm : Nat) (u : Tm) : Tm := if u.gone = false ∧ u.n = k then { u with tm := tm } else u
def rm1 (k : Nat) (u : Tm) : Tm := if u.gone = false ∧ u.n = k then { u with gone := true } else u
theorem chg1_n (k tm : Nat) (u : Tm) : (chg1 k tm u).n = u.n := by unfold chg1; split <;> rfl
theorem chg1_gen (k tm : Nat) (u : Tm) : (chg1 k tm u).gen = u.gen := by unfold chg1; split <;> rfl
theorem chg1_own (k tm : Nat) (u : Tm) : (chg1 k tm u).own = u.own := by unfold chg1; split <;> rfl
theorem chg1_sq (k tm : Nat) (u : Tm) : (chg1 k tm u).sq = u.sq := by unfold chg1; split <;> rfl
theorem chg1_gone (k tm : Nat) (u : Tm) : (chg1 k tm u).gone = u.gone := by unfold chg1; split <;> rfl
theorem chg1_tm (k tm : Nat) {u : Tm} (h : u.gone = false) : (chg1 k tm u).tm = if u.n = k then tm else u.tm := by unfold chg1; by_cases e : u.n = k <;> simp [h, e]
theorem rm1_n (k : Nat) (u : Tm) : (rm1 k u).n = u.n := by unfold rm1; split <;> rfl
theorem rm1_gen (k : Nat) (u : Tm) : (rm1 k u).gen = u.gen := by unfold rm1; split <;> rfl
theorem rm1_own (k : Nat) (u : Tm) : (rm1 k u).own = u.own := by unfold rm1; split <;> rfl
theorem rm1_tm (k : Nat) (u : Tm) : (rm1 k u).tm = u.tm := by unfold rm1; split <;> rfl
theorem rm1_sq (k : Nat) (u : Tm) : (rm1 k u).sq = u.sq := by unfold rm1; split <;> rfl
theorem rm1_gone (k : Nat) (u : Tm) : (rm1 k u).gone = (u.gone || decide (u.n = k)) := by unfold rm1; by_cases e : u.n = k <;> cases h : u.gone <;> simp [h, e]
def chgL (L : List Tm) (k tm : Nat) : List Tm := L.map (chg1 k tm)
def rmL (L : List Tm) (k : Nat) : List Tm := L.map (rm1 k)
theorem chgL_set {L : List Tm} {gv : List Nat} {n : Nat} (r : TRel L gv n) {i : Nat} {t : Tm} (hi : L[i]? = some t) (hg : t.gone = false) (tm : Nat) : chgL L t.n tm = L.set i { t with tm := tm } := by
  apply List.ext_getElem?
  intro j
  rw [chgL, List.getElem?_map, List.getElem?_set]
  by_cases e : i = j
  · subst e
    rw [if_pos rfl, if_pos (List.getElem?_eq_some_iff.1 hi).1, hi]
    simp [hg, chg1]
  · rw [if_neg e]
    cases hj : L[j]? with
    | none => rfl
    | some u =>
      simp only [Option.map_some, chg1]
      rw [if_neg (fun h => e (r.liveN hi hj hg h.1 h.2.symm))]
theorem rmL_set {L : List Tm} {gv : List Nat} {n : Nat} (r : TRel L gv n) {i : Nat} {t : Tm} (hi : L[i]? = some t) (hg : t.gone = false) : rmL L t.n = L.set i { t with gone := true } := by
  apply List.ext_getElem?
  intro j
  rw [rmL, List.getElem?_map, List.getElem?_set]
  by_cases e : i = j
  · subst e
    rw [if_pos rfl, if_pos (List.getElem?_eq_some_iff.1 hi).1, hi]
    simp [hg, rm1]
  · rw [if_neg e]
    cases hj : L[j]? with
    | none => rfl
    | some u =>
      simp only [Option.map_some, rm1]
      rw [if_neg (fun h => e (r.liveN hi hj hg h.1 h.2.symm))]
theorem wl_chg (L : List Tm) (k tm : Nat) : wl (chgL L k tm) = wchange (wl L) k tm := by
  rw [wl, wl, live, live, chgL, wchange, List.filter_map, List.map_map, List.map_map]
  have e : L.filter ((fun t : Tm => !t.gone) ∘ chg1 k tm) = L.filter (fun t => !t.gone) := List.filter_congr fun u _ => by simp only [Function.comp, chg1_gone]
  rw [e]
  refine List.map_congr_left fun u hu => ?_
  have hg := (mem_live.1 hu).2
  simp only [Function.comp, toW, chg1_n, chg1_own, chg1_sq, chg1_tm k tm hg]
  by_cases h : u.n = k <;> simp [h]
theorem wl_rm (L : List Tm) (k : Nat) : wl (rmL L k) = wremove (wl L) k := by
  rw [wl, wl, live, live, rmL, wremove, List.filter_map, List.map_map, List.filter_map, List.filter_filter]
  have e : L.filter ((fun t : Tm => !t.gone) ∘ rm1 k) = L.filter (fun a => ((fun w : WE => decide (w.h ≠ k)) ∘ toW) a && !a.gone) := List.filter_congr fun u _ => by
    simp only [Function.comp, rm1_gone, toW]
    by_cases h : u.n = k <;> cases u.gone <;> simp [h]
  rw [e]
  refine List.map_congr_left fun u _ => ?_
  simp only [Function.comp, toW, rm1_n, rm1_own, rm1_sq, rm1_tm]
theorem cnt_chg (L : List Tm) (k tm j : Nat) : cnt (chgL L k tm) j = cnt L j := by
  rw [cnt, cnt, chgL, List.countP_map]
  exact List.countP_congr fun u _ => by simp only [Function.comp, chg1_n]
theorem cnt_rm (L : List Tm) (k j : Nat) : cnt (rmL L k) j = cnt L j := by
  rw [cnt, cnt, rmL, List.countP_map]
  exact List.countP_congr fun u _ => by simp only [Function.comp, rm1_n]
theorem TRel.chg {L : List Tm} {gv : List Nat} {n : Nat} (r : TRel L gv n) (k tm : Nat) : TRel (chgL L k tm) gv n := by
  refine ⟨fun j => by rw [cnt_chg]; exact r.gv j, fun t ht hg => ?_, ?_, fun t ht => ?_, fun t ht => ?_, by rw [chgL, List.length_map]; exact r.ln⟩
  · obtain ⟨u, hu, rfl⟩ := List.mem_map.1 ht
    rw [chg1_gone] at hg
    rw [cnt_chg, chg1_n, chg1_gen]; exact r.last u hu hg
  · rw [chgL, List.pairwise_map]
    exact r.inc.imp fun {a b} hab => by rw [chg1_sq, chg1_sq, chg1_n, chg1_n, chg1_gen, chg1_gen]; exact hab
  · obtain ⟨u, hu, rfl⟩ := List.mem_map.1 ht
    rw [cnt_chg, chg1_n, chg1_gen]; exact r.lt u hu
  · obtain ⟨u, hu, rfl⟩ := List.mem_map.1 ht
    rw [chg1_sq]; exact r.le u hu
theorem TRel.rm {L : List Tm} {gv : List Nat} {n : Nat} (r : TRel L gv n) (k : Nat) : TRel (rmL L k) gv n := by
  refine ⟨fun j => by rw [cnt_rm]; exact r.gv j, fun t ht hg => ?_, ?_, fun t ht => ?_, fun t ht => ?_, by rw [rmL, List.length_map]; exact r.ln⟩
  · obtain ⟨u, hu, rfl⟩ := List.mem_map.1 ht
    rw [rm1_gone, Bool.or_eq_false_iff] at hg
    rw [cnt_rm, rm1_n, rm1_gen]; exact r.last u hu hg.1
  · rw [rmL, List.pairwise_map]
    exact r.inc.imp fun {a b} hab => by rw [rm1_sq, rm1_sq, rm1_n, rm1_n, rm1_gen, rm1_gen]; exact hab
  · obtain ⟨u, hu, rfl⟩ := List.mem_map.1 ht
    rw [cnt_rm, rm1_n, rm1_gen]; exact r.lt u hu
  · obtain ⟨u, hu, rfl⟩ := List.mem_map.1 ht
    rw [rm1_sq]; exact r.le u hu
theorem cnt_snoc (L : List Tm) (t : Tm) (k : Nat) : cnt (L ++ [t]) k = cnt L k + (if t.n = k then 1 else 0) := by
  rw [cnt, cnt, List.countP_append, List.countP_singleton]
  by_cases h : t.n = k <;> simp [h]
/-- The given numbers after one more timer. -/
theorem TRel.add {L : List Tm} {gv gv' : List Nat} {n : Nat} (r : TRel L gv n) (f : Nat) (own : Int) (tm : Nat) (hf : IsFree (wl L) f) (hgv : ∀ k, gv'.getD k 0 = gv.getD k 0 + (if f = k then 1 else 0)) :
    TRel (L ++ [⟨f, cnt L f, own, tm, false, n + 1⟩]) gv' (n + 1) := by
  refine ⟨fun k => by rw [cnt_snoc, hgv, r.gv], fun t ht hg => ?_, ?_, fun t ht => ?_, fun t ht => ?_, by rw [List.length_append, List.length_singleton]; have := r.ln; omega⟩
  · rw [cnt_snoc]
    rcases List.mem_append.1 ht with ht | ht
    · have hne : f ≠ t.n := fun e => hf.out (toW t) (mem_wl.2 ⟨t, ht, hg, rfl⟩) e.symm
      rw [if_neg hne]; exact r.last t ht hg
    · rw [List.mem_singleton] at ht
      subst ht
      rw [if_pos rfl]
  · rw [List.pairwise_append]
    refine ⟨r.inc, List.pairwise_singleton _ _, fun a ha b hb => ?_⟩
    rw [List.mem_singleton] at hb
    subst hb
    exact ⟨by have := r.le a ha; dsimp only; omega, fun e => by have := r.lt a ha; dsimp only at e ⊢; rw [e] at this; exact this⟩
  · rw [cnt_snoc]
    rcases List.mem_append.1 ht with ht | ht
    · have := r.lt t ht; omega
    · rw [List.mem_singleton] at ht
      subst ht
      rw [if_pos rfl]; dsimp only; omega
  · rcases List.mem_append.1 ht with ht | ht
    · have := r.le t ht; omega
    · rw [List.mem_singleton] at ht
      subst ht
      exact Nat.le_refl _
theorem wl_add (L : List Tm) (t : Tm) (h : t.gone = false) : wl (L ++ [t]) = wl L ++ [toW t] := by
  rw [wl, live, List.filter_append, List.map_append]
  congr 1
  simp [h]
/-- A free number is at most one more than all that were given. -/
theorem TRel.free {L : List Tm} {gv : List Nat} {n f : Nat} (r : TRel L gv n) (hf : IsFree (wl L) f) : f ≤ gv.length := by
  rcases Nat.eq_zero_or_pos f with h | h
  · omega
  · obtain ⟨w, hw, e⟩ := hf.below (f - 1) (by omega)
    obtain ⟨t, ht, _, rfl⟩ := mem_wl.1 hw
    have := r.len ht
    have e2 : t.n = f - 1 := e
    omega
/-! the first one -/
structure IsFst (L : List Tm) (i : Nat) (t : Tm) : Prop where
  at_ : L[i]? = some t
  g : t.gone = false
  min : ∀ (j : Nat) (u : Tm), L[j]? = some u → u.gone = false → t.tm < u.tm ∨ (t.tm = u.tm ∧ i ≤ j)
theorem IsFst.one {L : List Tm} {i j : Nat} {a b : Tm} (ha : IsFst L i a) (hb : IsFst L j b) : i = j ∧ a = b := by
  have h1 := ha.min j b hb.at_ hb.g
  have h2 := hb.min i a ha.at_ ha.g
  have e : i = j := by omega
  subst e
  have := ha.at_
  rw [hb.at_] at this
  exact ⟨rfl, (Option.some.inj this).symm⟩
/-- The index and the timer. -/
def fstP : List Tm → Option (Nat × Tm)
  | [] => none
  | t :: r => match fstP r with
    | none => if t.gone then none else some (0, t)
    | some (j, u) => if t.gone = false ∧ t.tm ≤ u.tm then some (0, t) else some (j + 1, u)
theorem fstP_none : ∀ {L : List Tm}, fstP L = none ↔ ∀ t ∈ L, t.gone = true
  | [] => by simp [fstP]
  | t :: r => by
    have ih := fstP_none (L := r)
    rw [fstP]
    cases h : fstP r with
    | none =>
      have h2 := ih.1 h
      cases hg : t.gone <;> simp [hg]
      exact h2
    | some x =>
      obtain ⟨j, u⟩ := x
      have h2 : ¬ ∀ t ∈ r, t.gone = true := fun e => by rw [ih.2 e] at h; cases h
      constructor
      · intro e
        dsimp only at e
        split at e <;> cases e
      · intro e
        exact absurd (fun t ht => e t (List.mem_cons_of_mem _ ht)) h2
theorem fstP_some : ∀ {L : List Tm} {i : Nat} {t : Tm}, fstP L = some (i, t) → IsFst L i t
  | [], _, _, h => by cases h
  | x :: r, i, t, h => by
    rw [fstP] at h
    cases hr : fstP r with
    | none =>
      rw [hr] at h
      dsimp only at h
      have h2 := fstP_none.1 hr
      cases hg : x.gone with
      | true => rw [hg] at h; cases h
      | false =>
        rw [hg] at h
        simp only [Bool.false_eq_true, if_false, Option.some.injEq, Prod.mk.injEq] at h
        obtain ⟨rfl, rfl⟩ := h
        refine ⟨rfl, hg, fun j u hj hu => ?_⟩
        cases j with
        | zero => exact .inr ⟨by simp at hj; rw [hj], Nat.le_refl _⟩
        | succ j =>
          have := h2 u (List.mem_of_getElem? (by simpa using hj))
          rw [hu] at this; cases this
    | some y =>
      obtain ⟨j, u⟩ := y
      rw [hr] at h
      dsimp only at h
      have ih := fstP_some hr
      by_cases hc : x.gone = false ∧ x.tm ≤ u.tm
      · rw [if_pos hc] at h
        simp only [Option.some.injEq, Prod.mk.injEq] at h
        obtain ⟨rfl, rfl⟩ := h
        refine ⟨rfl, hc.1, fun k v hk hv => ?_⟩
        cases k with
        | zero => exact .inr ⟨by simp at hk; rw [hk], Nat.le_refl _⟩
        | succ k =>
          have := ih.min k v (by simpa using hk) hv
          omega
      · rw [if_neg hc] at h
        simp only [Option.some.injEq, Prod.mk.injEq] at h
        obtain ⟨rfl, rfl⟩ := h
        refine ⟨by simpa using ih.at_, ih.g, fun k v hk hv => ?_⟩
        cases k with
        | zero =>
          simp at hk
          subst hk
          rw [hv] at hc
          simp only [true_and] at hc
          omega
        | succ k =>
          have := ih.min k v (by simpa using hk) hv
          omega
theorem IsFst.eq {L : List Tm} {i : Nat} {t : Tm} (h : IsFst L i t) : fstP L = some (i, t) := by
  cases hf : fstP L with
  | none =>
    have := fstP_none.1 hf t (List.mem_of_getElem? h.at_)
    rw [h.g] at this; cases this
  | some x =>
    obtain ⟨j, u⟩ := x
    obtain ⟨rfl, rfl⟩ := h.one (fstP_some hf)
    rfl
theorem IsFst.isMin {L : List Tm} {gv : List Nat} {n : Nat} (r : TRel L gv n) {i : Nat} {t : Tm} (h : IsFst L i t) : IsMin (wl L) (toW t) := by
  refine ⟨mem_wl.2 ⟨t, List.mem_of_getElem? h.at_, h.g, rfl⟩, fun w hw => ?_⟩
  obtain ⟨u, hu, hg, rfl⟩ := mem_wl.1 hw
  obtain ⟨j, hj⟩ := List.getElem?_of_mem hu
  have := h.min j u hj hg
  show t.tm < u.tm ∨ (t.tm = u.tm ∧ t.sq ≤ u.sq)
  rcases this with h1 | ⟨h1, h2⟩
  · exact .inl h1
  · refine .inr ⟨h1, ?_⟩
    have hp := r.inc
    rw [List.pairwise_iff_getElem] at hp
    obtain ⟨h3, e3⟩ := List.getElem?_eq_some_iff.1 h.at_
    obtain ⟨h4, e4⟩ := List.getElem?_eq_some_iff.1 hj
    rcases Nat.lt_or_ge i j with e | e
    · have := (hp i j h3 h4 e).1
      rw [e3, e4] at this; omega
    · have : i = j := by omega
      subst this
      rw [e3] at e4
      subst e4
      exact Nat.le_refl _
theorem wl_nil {L : List Tm} : wl L = [] ↔ fstP L = none := by
  rw [fstP_none]
  constructor
  · intro h t ht
    cases hg : t.gone with
    | true => rfl
    | false =>
      have : toW t ∈ wl L := mem_wl.2 ⟨t, ht, hg, rfl⟩
      rw [h] at this; cases this
  · intro h
    rw [List.eq_nil_iff_forall_not_mem]
    intro w hw
    obtain ⟨t, ht, hg, _⟩ := mem_wl.1 hw
    have := h t ht
    rw [hg] at this; cases this
/-- What expires by a time, one after the other, and what is left. -/
def expL (now : Nat) : Nat → List Tm → List Tm × List Tm
  | 0, L => (L, [])
  | n + 1, L => match fstP L with
    | none => (L, [])
    | some (_, t) => if t.tm ≤ now then ((expL now n (rmL L t.n)).1, t :: (expL now n (rmL L t.n)).2) else (L, [])
theorem live_rm {L : List Tm} {gv : List Nat} {n : Nat} (r : TRel L gv n) {i : Nat} {t : Tm} (hi : L[i]? = some t) (hg : t.gone = false) : (live (rmL L t.n)).length + 1 = (live L).length := by
  have e : ∀ (M : List Tm) (j : Nat), M[j]? = some t → (live (M.set j { t with gone := true })).length + 1 = (live M).length := by
    intro M
    induction M with
    | nil => intro j hj; cases hj
    | cons x M ih =>
      intro j hj
      cases j with
      | zero =>
        simp only [List.getElem?_cons_zero, Option.some.injEq] at hj
        subst hj
        simp [live, hg]
      | succ j =>
        have := ih j (by simpa using hj)
        simp only [live, List.set_cons_succ, List.filter_cons]
        split
        · simp only [List.length_cons]; simp only [live] at this; omega
        · exact this
  rw [rmL_set r hi hg]; exact e L i hi

end Go.Proofs.Ytnkpefonocggfaa
