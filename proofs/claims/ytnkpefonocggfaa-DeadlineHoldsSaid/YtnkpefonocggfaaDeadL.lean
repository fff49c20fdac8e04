/-
  Chapter 10 (deadline), part DeadL: contracts of functions that the laws call, each for the heap it names.
-/
import Derived.Test.YtnkpefonocggfaaTimerC
set_option linter.unusedVariables false
set_option maxRecDepth 20000
namespace Go.Proofs.Ytnkpefonocggfaa


/-- The deadline of a place, with its timer. -/
structure Sl where
  at_ : Nat
  set : Bool
  n : Nat
  gen : Nat
abbrev encSl (s : Sl) : List Value := [.int .u64 (s.at_ : Int), .bool s.set, .int .i64 (s.n : Int), .int .i64 (s.gen : Int)]
theorem encSl4 (s : Sl) : (encSl s).length = 4 := rfl
def updF (f : Nat → Nat) (i k : Nat) : Nat → Nat := fun j => if j = i then k else f j
theorem updF_self (f : Nat → Nat) (i k : Nat) : updF f i k i = k := by simp [updF]
theorem updF_ne (f : Nat → Nat) {i j : Nat} (k : Nat) (h : j ≠ i) : updF f i k j = f j := by simp [updF, h]
structure DRel (f : Nat → Nat) (now : Nat) (L : List Tm) (S : List Sl) : Prop where
  nv : now < 18446744073709551615
  len : S.length = 256
  at_ : ∀ (i : Nat) (s : Sl), S[i]? = some s → s.at_ = f i ∧ f i ≤ 18446744073709551615
  set_ : ∀ (i : Nat) (s : Sl), S[i]? = some s → (s.set = true ↔ (now < f i ∧ f i < 18446744073709551615))
  fwd : ∀ (i : Nat) (s : Sl), S[i]? = some s → s.set = true → ∃ t ∈ L, t.gone = false ∧ t.n = s.n ∧ t.gen = s.gen ∧ t.own = (i : Int) ∧ t.tm = s.at_
  bck : ∀ t ∈ L, t.gone = false → ∃ (i : Nat) (s : Sl), t.own = (i : Int) ∧ S[i]? = some s ∧ s.set = true ∧ s.n = t.n ∧ s.gen = t.gen ∧ s.at_ = t.tm
  small : ∀ (i : Nat) (s : Sl), S[i]? = some s → s.n ≤ 1000000000 ∧ s.gen ≤ 9000000000000000000
theorem rmL_mem {L : List Tm} {k : Nat} {t : Tm} (h : t ∈ rmL L k) (hg : t.gone = false) : t ∈ L ∧ t.n ≠ k := by
  obtain ⟨u, hu, rfl⟩ := List.mem_map.1 h
  rw [rm1_gone, Bool.or_eq_false_iff] at hg
  have hne : u.n ≠ k := of_decide_eq_false hg.2
  have e : rm1 k u = u := by unfold rm1; rw [if_neg (fun q => hne q.2)]
  rw [e]; exact ⟨hu, hne⟩
theorem mem_rm {L : List Tm} {k : Nat} {t : Tm} (h : t ∈ L) (hn : t.n ≠ k) : t ∈ rmL L k :=
  List.mem_map.2 ⟨t, h, by unfold rm1; rw [if_neg (fun q => hn q.2)]⟩
theorem TRel.same {L : List Tm} {gv : List Nat} {n : Nat} (r : TRel L gv n) {a b : Tm} (ha : a ∈ L) (hb : b ∈ L) (h1 : a.gone = false) (h2 : b.gone = false) (h : a.n = b.n) : a = b := by
  obtain ⟨i, hi⟩ := List.getElem?_of_mem ha
  obtain ⟨j, hj⟩ := List.getElem?_of_mem hb
  obtain rfl := r.liveN hi hj h1 h2 h
  rw [hi] at hj
  exact Option.some.inj hj
/-- The timers without that of a place. -/
structure Cut (L L1 : List Tm) (i : Nat) : Prop where
  a : ∀ t ∈ L1, t.gone = false → t ∈ L ∧ t.own ≠ (i : Int)
  b : ∀ t ∈ L, t.gone = false → t.own ≠ (i : Int) → t ∈ L1
section
variable {f : Nat → Nat} {now : Nat} {L : List Tm} {S : List Sl} {gv : List Nat} {n : Nat}
theorem DRel.cut (h : DRel f now L S) (r : TRel L gv n) {i : Nat} {s : Sl} (hs : S[i]? = some s) {t : Tm} (ht : t ∈ L) (hg : t.gone = false) (hn : t.n = s.n) (ho : t.own = (i : Int)) : Cut L (rmL L t.n) i := by
  refine ⟨fun u hu hug => ?_, fun u hu hug hne => ?_⟩
  · obtain ⟨h1, h2⟩ := rmL_mem hu hug
    refine ⟨h1, fun e => h2 ?_⟩
    obtain ⟨j, s2, q1, q2, _, q4, _⟩ := h.bck u h1 hug
    obtain rfl : i = j := by omega
    rw [hs] at q2
    obtain rfl := Option.some.inj q2
    rw [← q4, hn]
  · refine mem_rm hu fun e => hne ?_
    rw [r.same hu ht hug hg e]; exact ho
theorem DRel.cut0 (h : DRel f now L S) {i : Nat} {s : Sl} (hs : S[i]? = some s) (h0 : s.set = false) : Cut L L i := by
  refine ⟨fun u hu hug => ⟨hu, fun e => ?_⟩, fun u hu _ _ => hu⟩
  obtain ⟨j, s2, q1, q2, q3, _⟩ := h.bck u hu hug
  obtain rfl : i = j := by omega
  rw [hs] at q2
  obtain rfl := Option.some.inj q2
  rw [h0] at q3; cases q3
theorem set_get {S : List Sl} {i j : Nat} {x s : Sl} (h : (S.set i x)[j]? = some s) : (i = j ∧ s = x ∧ i < S.length) ∨ (i ≠ j ∧ S[j]? = some s) := by
  rw [List.getElem?_set] at h
  by_cases e : i = j
  · rw [if_pos e] at h
    by_cases hl : i < S.length
    · rw [if_pos hl] at h; exact .inl ⟨e, (Option.some.inj h).symm, hl⟩
    · rw [if_neg hl] at h; cases h
  · rw [if_neg e] at h; exact .inr ⟨e, h⟩
theorem set_ne {S : List Sl} {i j : Nat} {x s : Sl} (e : i ≠ j) (h : S[j]? = some s) : (S.set i x)[j]? = some s := by rw [List.getElem?_set, if_neg e]; exact h
theorem set_eq {S : List Sl} {i : Nat} {x s : Sl} (h : S[i]? = some s) : (S.set i x)[i]? = some x := by rw [List.getElem?_set, if_pos rfl, if_pos (List.getElem?_eq_some_iff.1 h).1]
theorem DRel.off (h : DRel f now L S) {i : Nat} {s : Sl} (hs : S[i]? = some s) {L1 : List Tm} (hc : Cut L L1 i) {k : Nat} (hk : k ≤ 18446744073709551615) (hn : ¬ (now < k ∧ k < 18446744073709551615)) : DRel (updF f i k) now L1 (S.set i ⟨k, false, 0, 0⟩) := by
  refine ⟨h.nv, by rw [List.length_set]; exact h.len, fun j x hx => ?_, fun j x hx => ?_, fun j x hx hxs => ?_, fun t ht hg => ?_, fun j x hx => ?_⟩
  · rcases set_get hx with ⟨rfl, rfl, _⟩ | ⟨e, hx⟩
    · rw [updF_self]; exact ⟨rfl, hk⟩
    · rw [updF_ne f k (Ne.symm e)]; exact h.at_ j x hx
  · rcases set_get hx with ⟨rfl, rfl, _⟩ | ⟨e, hx⟩
    · rw [updF_self]; exact ⟨fun q => (by cases q), fun q => absurd q hn⟩
    · rw [updF_ne f k (Ne.symm e)]; exact h.set_ j x hx
  · rcases set_get hx with ⟨rfl, rfl, _⟩ | ⟨e, hx⟩
    · cases hxs
    · obtain ⟨t, q1, q2, q3, q4, q5, q6⟩ := h.fwd j x hx hxs
      exact ⟨t, hc.b t q1 q2 (by rw [q5]; omega), q2, q3, q4, q5, q6⟩
  · obtain ⟨q1, q2⟩ := hc.a t ht hg
    obtain ⟨j, x, q3, q4, q5⟩ := h.bck t q1 hg
    exact ⟨j, x, q3, set_ne (fun e => q2 (by rw [q3, e])) q4, q5⟩
  · rcases set_get hx with ⟨rfl, rfl, _⟩ | ⟨e, hx⟩
    · exact ⟨Nat.zero_le _, Nat.zero_le _⟩
    · exact h.small j x hx
theorem DRel.on (h : DRel f now L S) {i : Nat} {s : Sl} (hs : S[i]? = some s) {L1 : List Tm} (hc : Cut L L1 i) {k : Nat} (h1 : now < k) (h2 : k < 18446744073709551615) (a g q : Nat) (ha : a ≤ 1000000000) (hg9 : g ≤ 9000000000000000000) : DRel (updF f i k) now (L1 ++ [⟨a, g, (i : Int), k, false, q⟩]) (S.set i ⟨k, true, a, g⟩) := by
  refine ⟨h.nv, by rw [List.length_set]; exact h.len, fun j x hx => ?_, fun j x hx => ?_, fun j x hx hxs => ?_, fun t ht hg => ?_, fun j x hx => ?_⟩
  · rcases set_get hx with ⟨rfl, rfl, _⟩ | ⟨e, hx⟩
    · rw [updF_self]; exact ⟨rfl, by omega⟩
    · rw [updF_ne f k (Ne.symm e)]; exact h.at_ j x hx
  · rcases set_get hx with ⟨rfl, rfl, _⟩ | ⟨e, hx⟩
    · rw [updF_self]; exact ⟨fun _ => ⟨h1, h2⟩, fun _ => rfl⟩
    · rw [updF_ne f k (Ne.symm e)]; exact h.set_ j x hx
  · rcases set_get hx with ⟨rfl, rfl, _⟩ | ⟨e, hx⟩
    · exact ⟨_, List.mem_append_right _ (List.mem_singleton.2 rfl), rfl, rfl, rfl, rfl, rfl⟩
    · obtain ⟨t, q1, q2, q3, q4, q5, q6⟩ := h.fwd j x hx hxs
      exact ⟨t, List.mem_append_left _ (hc.b t q1 q2 (by rw [q5]; omega)), q2, q3, q4, q5, q6⟩
  · rcases List.mem_append.1 ht with ht | ht
    · obtain ⟨q1, q2⟩ := hc.a t ht hg
      obtain ⟨j, x, q3, q4, q5⟩ := h.bck t q1 hg
      exact ⟨j, x, q3, set_ne (fun e => q2 (by rw [q3, e])) q4, q5⟩
    · rw [List.mem_singleton] at ht
      subst ht
      exact ⟨i, _, rfl, set_eq hs, rfl, rfl, rfl, rfl⟩
  · rcases set_get hx with ⟨rfl, rfl, _⟩ | ⟨e, hx⟩
    · exact ⟨ha, hg9⟩
    · exact h.small j x hx
theorem live_nodup (r : TRel L gv n) : (live L).Pairwise (fun a b => a.n ≠ b.n) := by
  rw [List.pairwise_iff_getElem]
  intro i j hi hj hij e
  obtain ⟨m1, g1⟩ := mem_live.1 (List.getElem_mem hi)
  obtain ⟨m2, g2⟩ := mem_live.1 (List.getElem_mem hj)
  have e1 := r.same m1 m2 g1 g2 e
  have hs : (live L).Pairwise (fun a b => a.sq < b.sq) := (r.inc.imp fun {a b} q => q.1).filter _
  have := List.pairwise_iff_getElem.1 hs i j hi hj hij
  rw [e1] at this; omega
theorem DRel.few (h : DRel f now L S) (r : TRel L gv n) : (live L).length ≤ 256 := by
  have hnd : ((live L).map (fun t => t.own.toNat)).Nodup := by
    rw [List.Nodup, List.pairwise_map]
    refine (List.Pairwise.and_mem.1 (live_nodup r)).imp fun {a b} ⟨ha, hb, hne⟩ e => hne ?_
    obtain ⟨m1, g1⟩ := mem_live.1 ha
    obtain ⟨m2, g2⟩ := mem_live.1 hb
    obtain ⟨i, s1, q1, q2, _, q4, _⟩ := h.bck a m1 g1
    obtain ⟨j, s2, p1, p2, _, p4, _⟩ := h.bck b m2 g2
    obtain rfl : i = j := by omega
    rw [q2] at p2
    obtain rfl := Option.some.inj p2
    rw [← q4, p4]
  have := List.Nodup.length_le_of_subset hnd (l₂ := List.range 256) fun x hx => by
    obtain ⟨t, ht, rfl⟩ := List.mem_map.1 hx
    obtain ⟨m1, g1⟩ := mem_live.1 ht
    obtain ⟨i, s1, q1, q2, _⟩ := h.bck t m1 g1
    have := (List.getElem?_eq_some_iff.1 q2).1
    rw [h.len] at this
    rw [List.mem_range]; omega
  rw [List.length_map, List.length_range] at this; exact this
/-! what expires -/
structure Exps (to : Nat) (L : List Tm) (z : List Tm × List Tm) : Prop where
  keep : ∀ t, (t ∈ z.1 ∧ t.gone = false) ↔ (t ∈ L ∧ t.gone = false ∧ to < t.tm)
  out : ∀ t, t ∈ z.2 ↔ (t ∈ L ∧ t.gone = false ∧ t.tm ≤ to)
  nd : z.2.Pairwise (fun a b => a.n ≠ b.n)
theorem eL_exps (r : TRel L gv n) (to : Nat) : Exps to L (eL to L) := by
  refine eL_ind (now := to) (motive := fun L z => Exps to L z) (fun L h => ?_) (fun L i t h hlt => ?_) (fun L gv n i t z r h hle ih => ?_) (live L).length L gv n r rfl
  · have hn := fstP_none.1 h
    exact ⟨fun t => ⟨fun q => (by have := hn t q.1; rw [q.2] at this; cases this), fun q => ⟨q.1, q.2.1⟩⟩, fun t => ⟨fun q => (by cases q), fun q => (by have := hn t q.1; rw [q.2.1] at this; cases this)⟩, .nil⟩
  · have hf := fstP_some h
    have hall : ∀ u ∈ L, u.gone = false → to < u.tm := fun u hu hg => by
      obtain ⟨j, hj⟩ := List.getElem?_of_mem hu
      have := hf.min j u hj hg; omega
    exact ⟨fun u => ⟨fun q => ⟨q.1, q.2, hall u q.1 q.2⟩, fun q => ⟨q.1, q.2.1⟩⟩, fun u => ⟨fun q => (by cases q), fun q => (by have := hall u q.1 q.2.1; omega)⟩, .nil⟩
  · have hf := fstP_some h
    have hm := List.mem_of_getElem? hf.at_
    refine ⟨fun u => ?_, fun u => ?_, ?_⟩
    · rw [show ((z.1, t :: z.2) : List Tm × List Tm).1 = z.1 from rfl, ih.keep u]
      constructor
      · rintro ⟨q1, q2, q3⟩
        exact ⟨(rmL_mem q1 q2).1, q2, q3⟩
      · rintro ⟨q1, q2, q3⟩
        refine ⟨mem_rm q1 fun e => ?_, q2, q3⟩
        have := r.same q1 hm q2 hf.g e
        subst this; omega
    · rw [show ((z.1, t :: z.2) : List Tm × List Tm).2 = t :: z.2 from rfl, List.mem_cons, ih.out u]
      constructor
      · rintro (rfl | ⟨q1, q2, q3⟩)
        · exact ⟨hm, hf.g, hle⟩
        · exact ⟨(rmL_mem q1 q2).1, q2, q3⟩
      · rintro ⟨q1, q2, q3⟩
        by_cases e : u.n = t.n
        · exact .inl (r.same q1 hm q2 hf.g e)
        · exact .inr ⟨mem_rm q1 e, q2, q3⟩
    · refine List.pairwise_cons.2 ⟨fun u hu e => ?_, ih.nd⟩
      obtain ⟨q1, q2, _⟩ := (ih.out u).1 hu
      exact (rmL_mem q1 q2).2 e.symm
/-- The slots of what has expired are set no more. -/
structure Clr (S S' : List Sl) (pre : List Tm) : Prop where
  len : S'.length = S.length
  get : ∀ (i : Nat) (s : Sl), S[i]? = some s → S'[i]? = some (if pre.any (fun t => decide (t.own = (i : Int))) = true then { s with set := false } else s)
theorem Clr.nil (S : List Sl) : Clr S S [] := ⟨rfl, fun i s h => by simpa using h⟩
theorem Clr.snoc {S S' : List Sl} {pre : List Tm} (h : Clr S S' pre) {t : Tm} {j : Nat} (hj : t.own = (j : Int)) {s' : Sl} (hs : S'[j]? = some s') : Clr S (S'.set j { s' with set := false }) (pre ++ [t]) := by
  refine ⟨by rw [List.length_set]; exact h.len, fun i s hi => ?_⟩
  have := h.get i s hi
  rw [List.getElem?_set, List.any_append]
  by_cases e : j = i
  · subst e
    rw [if_pos rfl, if_pos (List.getElem?_eq_some_iff.1 hs).1]
    rw [hs] at this
    have e2 := Option.some.inj this
    rw [e2]
    simp only [List.any_cons, List.any_nil, hj, decide_true, Bool.or_false, Bool.or_true, if_true]
    split <;> rfl
  · rw [if_neg e, this]
    have e2 : ¬ t.own = (i : Int) := by rw [hj]; omega
    simp [e2]
theorem any_own {pre : List Tm} {i : Nat} : pre.any (fun t => decide (t.own = (i : Int))) = true ↔ ∃ t ∈ pre, t.own = (i : Int) := by simp [List.any_eq_true]
theorem DRel.adv (h : DRel f now L S) (r : TRel L gv n) {to : Nat} (h1 : now ≤ to) (h2 : to < 18446744073709551615) {S' : List Sl} (hc : Clr S S' (eL to L).2) : DRel f to (eL to L).1 S' := by
  have hx := eL_exps r to
  have hget : ∀ (i : Nat) (s' : Sl), S'[i]? = some s' → ∃ s, S[i]? = some s ∧ s' = (if (eL to L).2.any (fun t => decide (t.own = (i : Int))) = true then { s with set := false } else s) := fun i s' hi => by
    have hl := (List.getElem?_eq_some_iff.1 hi).1
    rw [hc.len] at hl
    have hs := List.getElem?_eq_getElem hl
    have := hc.get i _ hs
    rw [hi] at this
    exact ⟨_, hs, Option.some.inj this⟩
  have hexp : ∀ (i : Nat) (s : Sl) (t : Tm), S[i]? = some s → t ∈ L → t.gone = false → t.own = (i : Int) → s.set = true ∧ s.n = t.n ∧ s.gen = t.gen ∧ s.at_ = t.tm := fun i s t hs ht hg ho => by
    obtain ⟨j, s2, q1, q2, q3⟩ := h.bck t ht hg
    obtain rfl : i = j := by omega
    rw [hs] at q2
    obtain rfl := Option.some.inj q2
    exact q3
  refine ⟨h2, by rw [hc.len]; exact h.len, fun i s' hs' => ?_, fun i s' hs' => ?_, fun i s' hs' hset => ?_, fun t ht hg => ?_, fun i s' hs' => ?_⟩
  · obtain ⟨s, hs, rfl⟩ := hget i s' hs'
    have := h.at_ i s hs
    split <;> exact this
  · obtain ⟨s, hs, rfl⟩ := hget i s' hs'
    have ha := h.at_ i s hs
    have hb := h.set_ i s hs
    by_cases e : (eL to L).2.any (fun t => decide (t.own = (i : Int))) = true
    · rw [if_pos e]
      obtain ⟨t, ht, ho⟩ := any_own.1 e
      obtain ⟨q1, q2, q3⟩ := (hx.out t).1 ht
      have := hexp i s t hs q1 q2 ho
      exact ⟨fun q => (by cases q), fun q => by omega⟩
    · rw [if_neg e, hb]
      refine ⟨fun q => ⟨?_, q.2⟩, fun q => ⟨by omega, q.2⟩⟩
      obtain ⟨t, q1, q2, q3, q4, q5, q6⟩ := h.fwd i s hs (hb.2 q)
      rcases Nat.lt_or_ge to t.tm with h9 | h9
      · omega
      · exact absurd (any_own.2 ⟨t, (hx.out t).2 ⟨q1, q2, h9⟩, q5⟩) e
  · obtain ⟨s, hs, rfl⟩ := hget i s' hs'
    by_cases e : (eL to L).2.any (fun t => decide (t.own = (i : Int))) = true
    · rw [if_pos e] at hset; cases hset
    · rw [if_neg e] at hset ⊢
      obtain ⟨t, q1, q2, q3, q4, q5, q6⟩ := h.fwd i s hs hset
      refine ⟨t, ?_, q2, q3, q4, q5, q6⟩
      rcases Nat.lt_or_ge to t.tm with h9 | h9
      · exact ((hx.keep t).2 ⟨q1, q2, h9⟩).1
      · exact absurd (any_own.2 ⟨t, (hx.out t).2 ⟨q1, q2, h9⟩, q5⟩) e
  · obtain ⟨q1, _, q3⟩ := (hx.keep t).1 ⟨ht, hg⟩
    obtain ⟨i, s, p1, p2, p3, p4, p5, p6⟩ := h.bck t q1 hg
    refine ⟨i, s, p1, ?_, p3, p4, p5, p6⟩
    rw [hc.get i s p2]
    congr 1
    split
    · rename_i e
      obtain ⟨u, hu, ho⟩ := any_own.1 e
      obtain ⟨u1, u2, u3⟩ := (hx.out u).1 hu
      have := hexp i s u p2 u1 u2 ho
      have := r.same u1 q1 u2 hg (by omega)
      subst this; omega
    · rfl
  · obtain ⟨s, hs, rfl⟩ := hget i s' hs'
    have := h.small i s hs
    split <;> exact this
/-! lapses -/
structure Lp where
  fd : Int
  dir : Int
  at_ : Nat
abbrev encLp (x : Lp) : List Value := [.int .i64 x.fd, .int .i64 x.dir, .int .u64 (x.at_ : Int)]
theorem encLp3 (x : Lp) : (encLp x).length = 3 := rfl
def lpI (f : Nat → Nat) (i : Nat) : Lp := ⟨((i / 2 : Nat) : Int), ((i % 2 : Nat) : Int), f i⟩
def lpT (t : Tm) : Lp := ⟨((t.own.toNat / 2 : Nat) : Int), ((t.own.toNat % 2 : Nat) : Int), t.tm⟩
def lpLt (a b : Lp) : Prop := a.at_ < b.at_ ∨ (a.at_ = b.at_ ∧ (a.fd < b.fd ∨ (a.fd = b.fd ∧ a.dir < b.dir)))
instance (a b : Lp) : Decidable (lpLt a b) := inferInstanceAs (Decidable (_ ∨ _))
theorem lp_irrefl (a : Lp) : ¬ lpLt a a := by unfold lpLt; omega
theorem lp_asymm {a b : Lp} (h1 : lpLt a b) (h2 : lpLt b a) : False := by unfold lpLt at *; omega
theorem lp_trans {a b c : Lp} (h1 : lpLt a b) (h2 : lpLt b c) : lpLt a c := by unfold lpLt at *; omega
theorem lp_tot {a b : Lp} (h1 : ¬ lpLt a b) (h2 : ¬ lpLt b a) : a = b := by
  obtain ⟨a1, a2, a3⟩ := a
  obtain ⟨b1, b2, b3⟩ := b
  unfold lpLt at h1 h2
  dsimp only at h1 h2
  obtain rfl : a1 = b1 := by omega
  obtain rfl : a2 = b2 := by omega
  obtain rfl : a3 = b3 := by omega
  rfl
theorem sorted_one : ∀ {A B : List Lp}, A.Pairwise lpLt → B.Pairwise lpLt → (∀ x, x ∈ A ↔ x ∈ B) → A = B
  | [], [], _, _, _ => rfl
  | [], b :: B, _, _, h => by have := (h b).2 (List.mem_cons_self ..); cases this
  | a :: A, [], _, _, h => by have := (h a).1 (List.mem_cons_self ..); cases this
  | a :: A, b :: B, ha, hb, h => by
    obtain ⟨a1, a2⟩ := List.pairwise_cons.1 ha
    obtain ⟨b1, b2⟩ := List.pairwise_cons.1 hb
    have e : a = b := by
      rcases List.mem_cons.1 ((h a).1 (List.mem_cons_self ..)) with e | m1
      · exact e
      · rcases List.mem_cons.1 ((h b).2 (List.mem_cons_self ..)) with e | m2
        · exact e.symm
        · exact (lp_asymm (a1 b m2) (b1 a m1)).elim
    subst e
    rw [sorted_one a2 b2 fun x => ?_]
    constructor
    · intro hx
      rcases List.mem_cons.1 ((h x).1 (List.mem_cons_of_mem _ hx)) with e | m
      · subst e; exact absurd (a1 x hx) (lp_irrefl x)
      · exact m
    · intro hx
      rcases List.mem_cons.1 ((h x).2 (List.mem_cons_of_mem _ hx)) with e | m
      · subst e; exact absurd (b1 x hx) (lp_irrefl x)
      · exact m
/-- What passes, in order. -/
structure IsLap (f : Nat → Nat) (now to : Nat) (l : List Lp) : Prop where
  ord : l.Pairwise lpLt
  mem : ∀ x, x ∈ l ↔ ∃ i : Nat, i < 256 ∧ now < f i ∧ f i ≤ to ∧ x = lpI f i
theorem IsLap.one {to : Nat} {A B : List Lp} (ha : IsLap f now to A) (hb : IsLap f now to B) : A = B := sorted_one ha.ord hb.ord fun x => (ha.mem x).trans (hb.mem x).symm
theorem DRel.lpT (h : DRel f now L S) {t : Tm} (ht : t ∈ L) (hg : t.gone = false) : ∃ i : Nat, i < 256 ∧ t.own = (i : Int) ∧ t.tm = f i ∧ now < f i ∧ f i < 18446744073709551615 ∧ Go.Proofs.Ytnkpefonocggfaa.lpT t = lpI f i := by
  obtain ⟨i, s, q1, q2, q3, q4, q5, q6⟩ := h.bck t ht hg
  have hl := (List.getElem?_eq_some_iff.1 q2).1
  rw [h.len] at hl
  have ha := h.at_ i s q2
  have hb := (h.set_ i s q2).1 q3
  refine ⟨i, hl, q1, by omega, hb.1, hb.2, ?_⟩
  unfold Go.Proofs.Ytnkpefonocggfaa.lpT lpI
  rw [q1, Int.toNat_natCast, show t.tm = f i from by omega]
theorem DRel.laps (h : DRel f now L S) (r : TRel L gv n) {to : Nat} (h2 : to < 18446744073709551615) {l : List Lp} (hp : l.Perm ((eL to L).2.map Go.Proofs.Ytnkpefonocggfaa.lpT)) (hs : l.Pairwise (fun a b => ¬ lpLt b a)) : IsLap f now to l := by
  have hx := eL_exps r to
  have hnd : ((eL to L).2.map Go.Proofs.Ytnkpefonocggfaa.lpT).Nodup := by
    rw [List.Nodup, List.pairwise_map]
    refine (List.Pairwise.and_mem.1 hx.nd).imp fun {a b} ⟨ha, hb, hne⟩ e => hne ?_
    obtain ⟨a1, a2, _⟩ := (hx.out a).1 ha
    obtain ⟨b1, b2, _⟩ := (hx.out b).1 hb
    obtain ⟨i, s1, q1, q2, _, q4, _⟩ := h.bck a a1 a2
    obtain ⟨j, s2, p1, p2, _, p4, _⟩ := h.bck b b1 b2
    have : i = j := by
      have e1 := congrArg Lp.fd e
      have e2 := congrArg Lp.dir e
      unfold Go.Proofs.Ytnkpefonocggfaa.lpT at e1 e2
      dsimp only at e1 e2
      rw [q1, p1, Int.toNat_natCast, Int.toNat_natCast] at e1 e2
      omega
    subst this
    rw [q2] at p2
    obtain rfl := Option.some.inj p2
    rw [← q4, p4]
  refine ⟨?_, fun x => ?_⟩
  · have hn2 : l.Pairwise (fun a b => a ≠ b) := hp.nodup_iff.2 hnd
    refine (List.pairwise_and_iff.2 ⟨hs, hn2⟩).imp fun {a b} ⟨h3, h4⟩ => ?_
    by_cases e : lpLt a b
    · exact e
    · exact absurd (lp_tot e h3) h4
  · rw [hp.mem_iff, List.mem_map]
    constructor
    · rintro ⟨t, ht, rfl⟩
      obtain ⟨q1, q2, q3⟩ := (hx.out t).1 ht
      obtain ⟨i, hi, p1, p2, p3, p4, p5⟩ := h.lpT q1 q2
      exact ⟨i, hi, p3, by omega, p5⟩
    · rintro ⟨i, hi, q1, q2, rfl⟩
      have hs2 := List.getElem?_eq_getElem (show i < S.length by rw [h.len]; exact hi)
      obtain ⟨t, p1, p2, p3, p4, p5, p6⟩ := h.fwd i _ hs2 ((h.set_ i _ hs2).2 ⟨q1, by omega⟩)
      have ha := h.at_ i _ hs2
      refine ⟨t, (hx.out t).2 ⟨p1, p2, by omega⟩, ?_⟩
      unfold Go.Proofs.Ytnkpefonocggfaa.lpT lpI
      rw [p5, Int.toNat_natCast, p6, ha.1]
/-! the next one -/
structure IsNx (f : Nat → Nat) (now k : Nat) : Prop where
  le : k ≤ 18446744073709551615 ∧ ∀ i, i < 256 → now < f i → k ≤ f i ∨ 18446744073709551615 ≤ f i
  is_ : k = 18446744073709551615 ∨ ∃ i : Nat, i < 256 ∧ now < f i ∧ f i = k ∧ k < 18446744073709551615
theorem IsNx.one {a b : Nat} (ha : IsNx f now a) (hb : IsNx f now b) : a = b := by
  have h1 := ha.le.1
  have h2 := hb.le.1
  rcases ha.is_ with e | ⟨i, i1, i2, i3, i4⟩ <;> rcases hb.is_ with q | ⟨j, j1, j2, j3, j4⟩
  · omega
  · have := ha.le.2 j j1 j2; omega
  · have := hb.le.2 i i1 i2; omega
  · have := ha.le.2 j j1 j2
    have := hb.le.2 i i1 i2
    omega
theorem DRel.next (h : DRel f now L S) : IsNx f now (nxtL L) := by
  have hall : ∀ i, i < 256 → now < f i → f i < 18446744073709551615 → ∃ t ∈ L, t.gone = false ∧ t.tm = f i := fun i hi h1 h2 => by
    have hs2 := List.getElem?_eq_getElem (show i < S.length by rw [h.len]; exact hi)
    obtain ⟨t, p1, p2, p3, p4, p5, p6⟩ := h.fwd i _ hs2 ((h.set_ i _ hs2).2 ⟨h1, h2⟩)
    have ha := h.at_ i _ hs2
    exact ⟨t, p1, p2, by rw [p6, ha.1]⟩
  unfold nxtL
  cases hf : fstP L with
  | none =>
    have hn := fstP_none.1 hf
    refine ⟨⟨Nat.le_refl _, fun i hi h1 => .inr ?_⟩, .inl rfl⟩
    rcases Nat.lt_or_ge (f i) 18446744073709551615 with h2 | h2
    · obtain ⟨t, p1, p2, _⟩ := hall i hi h1 h2
      have := hn t p1
      rw [p2] at this; cases this
    · exact h2
  | some z =>
    obtain ⟨j, t⟩ := z
    have hs := fstP_some hf
    obtain ⟨i, hi, q1, q2, q3, q4, _⟩ := h.lpT (List.mem_of_getElem? hs.at_) hs.g
    refine ⟨⟨by dsimp only; omega, fun i2 hi2 h1 => ?_⟩, .inr ⟨i, hi, q3, q2.symm, by dsimp only; omega⟩⟩
    rcases Nat.lt_or_ge (f i2) 18446744073709551615 with h2 | h2
    · obtain ⟨u, p1, p2, p3⟩ := hall i2 hi2 h1 h2
      obtain ⟨k, hk⟩ := List.getElem?_of_mem p1
      have := hs.min k u hk p2
      dsimp only; omega
    · exact .inr h2
/-- No deadlines. -/
theorem DRel.new {now : Nat} (h : now < 18446744073709551615) : DRel (fun _ => 18446744073709551615) now [] (List.replicate 256 ⟨18446744073709551615, false, 0, 0⟩) := by
  have hg : ∀ (i : Nat) (s : Sl), (List.replicate 256 (⟨18446744073709551615, false, 0, 0⟩ : Sl))[i]? = some s → s = ⟨18446744073709551615, false, 0, 0⟩ := fun i s hs => List.eq_of_mem_replicate (List.mem_of_getElem? hs)
  refine ⟨h, List.length_replicate, fun i s hs => by rw [hg i s hs]; exact ⟨rfl, Nat.le_refl _⟩, fun i s hs => ?_, fun i s hs hset => ?_, fun t ht => (by cases ht), fun i s hs => ?_⟩
  · rw [hg i s hs]
    exact ⟨fun q => (by cases q), fun q => by omega⟩
  · rw [hg i s hs] at hset; cases hset
  · rw [hg i s hs]; exact ⟨Nat.zero_le _, Nat.zero_le _⟩
end

end Go.Proofs.Ytnkpefonocggfaa
