/-
  Chapter 46 (pool), part RefD: contracts of functions that the laws call, each for the heap it names.
-/
import Derived.Test.YteofigbgdbpjgaaY03
import Derived.Test.YteofigbgdbpjgaaRows
section
set_option linter.unusedVariables false
set_option maxRecDepth 20000
namespace Go.Proofs.Yteofigbgdbpjgaa
section
variable {α : Type} {p : α → Bool} {q : α → α → Bool} {v : α → Nat} {L : List α}
theorem selK_none : ∀ {k : Nat}, selK p q L k = none → ∀ i y, i < k → L[i]? = some y → p y = false
  | 0, _, i, y, h, _ => absurd h (Nat.not_lt_zero _)
  | k + 1, h, i, y, hi, hy => by
    rw [selK] at h
    cases hx : L[k]? with
    | none =>
      rw [hx] at h
      rcases Nat.lt_succ_iff_lt_or_eq.1 hi with h9 | rfl
      · exact selK_none h i y h9 hy
      · rw [hx] at hy; cases hy
    | some x =>
      rw [hx] at h
      simp only at h
      split at h
      · cases h
      · rename_i hc
        rcases Nat.lt_succ_iff_lt_or_eq.1 hi with h9 | rfl
        · exact selK_none h i y h9 hy
        · rw [hx] at hy; obtain rfl := Option.some.inj hy
          cases hp : p x with
          | false => rfl
          | true => exact absurd ⟨hp, by rw [h]; rfl⟩ hc
theorem selK_max (hq : ∀ x y, q x y = decide (v y ≤ v x)) : ∀ {k j : Nat}, selK p q L k = some j → ∃ z, L[j]? = some z ∧ p z = true ∧ ∀ i y, i < k → L[i]? = some y → p y = true → v y < v z ∨ (v y = v z ∧ i ≤ j)
  | 0, _, h => by cases h
  | k + 1, j, h => by
    rw [selK] at h
    cases hx : L[k]? with
    | none =>
      rw [hx] at h
      obtain ⟨z, h1, h2, h3⟩ := selK_max hq h
      refine ⟨z, h1, h2, fun i y hi hy hp => ?_⟩
      rcases Nat.lt_succ_iff_lt_or_eq.1 hi with h9 | rfl
      · exact h3 i y h9 hy hp
      · rw [hx] at hy; cases hy
    | some x =>
      rw [hx] at h
      simp only at h
      split at h
      · rename_i hc
        obtain rfl := Option.some.inj h
        refine ⟨x, hx, hc.1, fun i y hi hy hp => ?_⟩
        rcases Nat.lt_succ_iff_lt_or_eq.1 hi with h9 | rfl
        · cases ho : selK p q L k with
          | none => rw [selK_none ho i y h9 hy] at hp; cases hp
          | some j0 =>
            obtain ⟨z, h1, h2, h3⟩ := selK_max hq ho
            have hc2 := hc.2
            rw [ho] at hc2
            simp only [selC, h1, hq, decide_eq_true_eq] at hc2
            rcases h3 i y h9 hy hp with e | e
            · exact .inl (by omega)
            · rcases Nat.lt_or_ge (v y) (v x) with e2 | e2
              · exact .inl e2
              · exact .inr ⟨by omega, by omega⟩
        · rw [hx] at hy; obtain rfl := Option.some.inj hy; exact .inr ⟨rfl, Nat.le_refl _⟩
      · rename_i hc
        obtain ⟨z, h1, h2, h3⟩ := selK_max hq h
        refine ⟨z, h1, h2, fun i y hi hy hp => ?_⟩
        rcases Nat.lt_succ_iff_lt_or_eq.1 hi with h9 | rfl
        · exact h3 i y h9 hy hp
        · rw [hx] at hy; obtain rfl := Option.some.inj hy
          have : ¬ selC q L x (some j) = true := fun e => hc ⟨hp, by rw [h]; exact e⟩
          simp only [selC, h1, hq, decide_eq_true_eq] at this
          exact .inl (by omega)
theorem selK_min (hq : ∀ x y, q x y = decide (v x < v y)) : ∀ {k j : Nat}, selK p q L k = some j → ∃ z, L[j]? = some z ∧ p z = true ∧ ∀ i y, i < k → L[i]? = some y → p y = true → v z < v y ∨ (v z = v y ∧ j ≤ i)
  | 0, _, h => by cases h
  | k + 1, j, h => by
    rw [selK] at h
    cases hx : L[k]? with
    | none =>
      rw [hx] at h
      obtain ⟨z, h1, h2, h3⟩ := selK_min hq h
      refine ⟨z, h1, h2, fun i y hi hy hp => ?_⟩
      rcases Nat.lt_succ_iff_lt_or_eq.1 hi with h9 | rfl
      · exact h3 i y h9 hy hp
      · rw [hx] at hy; cases hy
    | some x =>
      rw [hx] at h
      simp only at h
      split at h
      · rename_i hc
        obtain rfl := Option.some.inj h
        refine ⟨x, hx, hc.1, fun i y hi hy hp => ?_⟩
        rcases Nat.lt_succ_iff_lt_or_eq.1 hi with h9 | rfl
        · cases ho : selK p q L k with
          | none => rw [selK_none ho i y h9 hy] at hp; cases hp
          | some j0 =>
            obtain ⟨z, h1, h2, h3⟩ := selK_min hq ho
            have hc2 := hc.2
            rw [ho] at hc2
            simp only [selC, h1, hq, decide_eq_true_eq] at hc2
            rcases h3 i y h9 hy hp with e | e
            · exact .inl (by omega)
            · exact .inl (by omega)
        · rw [hx] at hy; obtain rfl := Option.some.inj hy; exact .inr ⟨rfl, Nat.le_refl _⟩
      · rename_i hc
        obtain ⟨z, h1, h2, h3⟩ := selK_min hq h
        have hjl := (selK_lt h).1
        refine ⟨z, h1, h2, fun i y hi hy hp => ?_⟩
        rcases Nat.lt_succ_iff_lt_or_eq.1 hi with h9 | rfl
        · exact h3 i y h9 hy hp
        · rw [hx] at hy; obtain rfl := Option.some.inj hy
          have : ¬ selC q L x (some j) = true := fun e => hc ⟨hp, by rw [h]; exact e⟩
          simp only [selC, h1, hq, decide_eq_true_eq] at this
          rcases Nat.lt_or_ge (v z) (v x) with e2 | e2
          · exact .inl e2
          · exact .inr ⟨by omega, by omega⟩
end
theorem sel_top {q : Int → Int → Bool} (irr : ∀ a, q a a = false) (tr : ∀ a b c, q a b = true → q b c = true → q a c = true) (neg : ∀ a b c, q a b = false → q b c = false → q a c = false) : ∀ {l : List Int} {a : Int}, a ∈ l → q a (sel q l) = false
  | [], _, h => by cases h
  | x :: r, a, h => by
    have key : ∀ (r : List Int) (x a : Int), a ∈ x :: r → q a (r.foldl (fun m a => if q a m = true then a else m) x) = false := by
      intro r
      induction r with
      | nil => intro x a ha; rw [List.mem_singleton.1 ha]; exact irr x
      | cons b r ih =>
        intro x a ha
        rw [List.foldl_cons]
        have hm := ih (if q b x = true then b else x) (if q b x = true then b else x) (List.mem_cons_self ..)
        rcases List.mem_cons.1 ha with rfl | ha
        · cases hb : q b a with
          | true =>
            simp only [hb, if_true] at hm ⊢
            refine neg a b _ ?_ hm
            cases hab : q a b with
            | false => rfl
            | true => have := tr a b a hab hb; rw [irr] at this; cases this
          | false => simp only [hb] at hm ⊢; exact hm
        · rcases List.mem_cons.1 ha with rfl | ha
          · cases hb : q a x with
            | true => simp only [hb, if_true] at hm ⊢; exact hm
            | false => simp only [hb] at hm ⊢; exact neg a x _ hb hm
          · exact ih _ a (List.mem_cons_of_mem _ ha)
    exact key r x a h
theorem lexI_gt (x y a b : Int) : 0 < lexI x y a b ↔ y < x ∨ (x = y ∧ b < a) := by
  unfold lexI
  simp only [orL, cmpI]
  (repeat' split) <;> omega
theorem srt_le {R : List Cr} {i j : Nat} {y z : Cr} (hs : R.Pairwise (fun a b => a.num < b.num)) (hy : R[i]? = some y) (hz : R[j]? = some z) (h : i ≤ j) : y.num ≤ z.num := by
  rcases Nat.lt_or_eq_of_le h with h | rfl
  · obtain ⟨h1, h2⟩ := List.getElem?_eq_some_iff.1 hy
    obtain ⟨h3, h4⟩ := List.getElem?_eq_some_iff.1 hz
    have := List.pairwise_iff_getElem.1 hs i j h1 h3 h
    rw [h2, h4] at this; omega
  · rw [hy] at hz; rw [Option.some.inj hz]; exact Int.le_refl _
theorem rsince_at {C : List Cn} {i : Nat} {x : Cn} (h : C[i]? = some x) : sinceI C (i : Int) = x.since := by unfold sinceI; rw [Int.toNat_natCast, h]
theorem last_top {s : PS} {a : Int} (ha : a ∈ allI 3 s.C) : ¬ (sinceI s.C s.last < sinceI s.C a ∨ (sinceI s.C a = sinceI s.C s.last ∧ s.last < a)) := by
  have h := sel_top (q := fun a b => decide (0 < idleC s.C a b)) (fun a => decide_eq_false (by unfold idleC; rw [lexI_gt]; omega)) (fun a b c h1 h2 => by
      simp only [decide_eq_true_eq, idleC, lexI_gt] at *; omega) (fun a b c h1 h2 => by
      simp only [decide_eq_false_iff_not, idleC, lexI_gt] at *; omega) ha
  have h9 : ¬ 0 < lexI (sinceI s.C a) (sinceI s.C s.last) a s.last := of_decide_eq_false h
  rw [lexI_gt] at h9
  omega
theorem ro_last {s : PS} : (allI 3 s.C = [] → (rsOf s).lastI = none) ∧ (allI 3 s.C ≠ [] → ∃ j z, (rsOf s).lastI = some j ∧ (rsOf s).R[j]? = some z ∧ z.num = s.last) := by
  constructor
  · intro h
    cases hl : (rsOf s).lastI with
    | none => rfl
    | some j =>
      obtain ⟨_, z, hz, hp⟩ := selK_lt hl
      obtain ⟨i, x, hx, hx0, rfl⟩ := rcF_mem (List.mem_of_getElem? hz)
      have := allI_in hx (of_decide_eq_true hp)
      rw [h] at this; cases this
  · intro h
    obtain ⟨k, x, hk, hx, hkl, hx3⟩ := last_mem h
    rw [hk, Int.toNat_natCast] at hx
    have hin := rcF_in (k := 0) hx (by rw [hx3]; decide)
    rw [Nat.zero_add] at hin
    obtain ⟨i, hi⟩ := List.mem_iff_getElem?.1 hin
    have hil := (List.getElem?_eq_some_iff.1 hi).1
    cases hl : (rsOf s).lastI with
    | none =>
      have := selK_none hl i _ hil hi
      exact absurd hx3 (of_decide_eq_false this)
    | some j =>
      obtain ⟨z, hz, hp, hm⟩ := selK_max (v := Cr.since) (fun _ _ => rfl) hl
      refine ⟨j, z, rfl, hz, ?_⟩
      have h1 := hm i _ hil hi (decide_eq_true hx3)
      dsimp only at h1
      obtain ⟨i2, x2, hx2, hx20, rfl⟩ := rcF_mem (List.mem_of_getElem? hz)
      rw [Nat.zero_add] at hz ⊢
      dsimp only at h1 ⊢
      have h2 := last_top (allI_in hx2 (of_decide_eq_true hp))
      rw [hk, rsince_at hx, rsince_at hx2] at h2
      rw [hk]
      have h3 : ¬ (x2.since = x.since ∧ (k : Int) < (i2 : Int)) := fun e => h2 (.inr e)
      have h4 : ¬ x.since < x2.since := fun e => h2 (.inl e)
      rcases h1 with e | ⟨e1, e2⟩
      · omega
      · have := srt_le (rcF_srt s.C 0) hi hz e2
        dsimp only at this
        omega
theorem ro_busy {s : PS} (who : Int) : (rsOf s).busy who = (s.waits who || s.dials who) := by
  have h : (rsOf s).R.any (fBusy who) = s.dials who := by
    rw [Bool.eq_iff_iff]
    constructor
    · intro h
      obtain ⟨z, hz, hf⟩ := List.any_eq_true.1 h
      obtain ⟨i, x, hx, hx0, rfl⟩ := rcF_mem hz
      exact List.any_eq_true.2 ⟨x, List.mem_of_getElem? hx, hf⟩
    · intro h
      obtain ⟨x, hx, hf⟩ := List.any_eq_true.1 (show (s.C.any fun x => decide (x.st = 1 ∧ x.who = who)) = true from h)
      obtain ⟨i, hi⟩ := List.mem_iff_getElem?.1 hx
      have hin := rcF_in (k := 0) hi (by rw [(of_decide_eq_true hf).1]; decide)
      exact List.any_eq_true.2 ⟨_, hin, hf⟩
  unfold RS.busy
  rw [ro_waits, h]
theorem ro_get {s : PS} (h : PW s) (who : Int) (now dl : Nat) : (rsOf s).get who now dl = (rsOf (s.getS who now dl), s.getV who now dl, getE_ s who now dl) := by
  by_cases hm : s.may (decide (0 ≤ who ∧ who ≤ 1000)) now = 0
  · have hm2 : ¬ (rsOf s).may (decide (0 ≤ who ∧ who ≤ 1000)) now ≠ 0 := fun e => e hm
    by_cases hd : dl ≤ now
    · have he := getE_late hm hd
      obtain ⟨e1, e2⟩ := get_err (s := s) (who := who) (now := now) (dl := dl) (by rw [he]; decide)
      rw [rg_late hm2 hd, he, e1, e2]
    · by_cases hb : (rsOf s).busy who = true
      · have hb2 := hb
        rw [ro_busy, Bool.or_eq_true] at hb2
        have he := getE_busy hm hd hb2
        obtain ⟨e1, e2⟩ := get_err (s := s) (who := who) (now := now) (dl := dl) (by rw [he]; decide)
        rw [rg_busy hm2 hd hb, he, e1, e2]
      · have hb3 : (rsOf s).busy who = false := by simpa using hb
        have hb2 := hb3
        rw [ro_busy, Bool.or_eq_false_iff] at hb2
        have he := getE_ok hm hd hb2.1 hb2.2
        rw [he]
        by_cases hi : allI 3 s.C = []
        · have hl := ro_last.1 hi
          by_cases hr : s.room = true
          · obtain ⟨e1, e2⟩ := get_dial he hi hr
            rw [rg_dial hm2 hd hb3 hl ((ro_room h.ph.len).2 hr), e1, e2, ro_free (PS.room_ne hr h.ph.len h.ph.op), ro_at, ro_dial (s := s.at_ now) h.ph.len h.ph.op hr]
          · have hr2 : s.room = false := by simpa using hr
            obtain ⟨e1, e2⟩ := get_wait he hi hr2
            rw [rg_wait hm2 hd hb3 hl (fun e => hr ((ro_room h.ph.len).1 e)), e1, e2]
            unfold RS.wait rsOf
            simp [RS.at_]
        · obtain ⟨j, z, hl, hz, hn⟩ := (ro_last (s := s)).2 hi
          obtain ⟨k, x, hk, hx, hkl, hx3⟩ := last_mem hi
          obtain ⟨e1, e2⟩ := get_use he hi
          rw [rg_use hm2 hd hb3 hl hz, e1, e2, hn, hk, Int.toNat_natCast, ro_at]
          have := ro_set (s := s.at_ now) (i := k) (y := ⟨2, 0, 0⟩) hkl (show (2 : Int) ≠ 0 by decide)
          rw [← this]
  · have he := getE_may (dl := dl) hm
    obtain ⟨e1, e2⟩ := get_err (s := s) (who := who) (now := now) (dl := dl) (by rw [he]; exact hm)
    rw [rg_bad (r := rsOf s) hm, he, e1, e2]; rfl
end Go.Proofs.Yteofigbgdbpjgaa
end
section
set_option linter.unusedVariables false
set_option maxRecDepth 20000
namespace Go.Proofs.Yteofigbgdbpjgaa
theorem srt_ext {α : Type} {lt : α → α → Prop} (irr : ∀ a, ¬ lt a a) (asy : ∀ a b, lt a b → ¬ lt b a) : ∀ {l l2 : List α}, l.Pairwise lt → l2.Pairwise lt → (∀ a, a ∈ l ↔ a ∈ l2) → l = l2
  | [], [], _, _, _ => rfl
  | [], b :: r, _, _, h => by have := (h b).2 (List.mem_cons_self ..); cases this
  | a :: r, [], _, _, h => by have := (h a).1 (List.mem_cons_self ..); cases this
  | a :: r, b :: r2, h1, h2, h => by
    obtain ⟨h1a, h1b⟩ := List.pairwise_cons.1 h1
    obtain ⟨h2a, h2b⟩ := List.pairwise_cons.1 h2
    have e : a = b := by
      rcases List.mem_cons.1 ((h a).1 (List.mem_cons_self ..)) with e | e
      · exact e
      · rcases List.mem_cons.1 ((h b).2 (List.mem_cons_self ..)) with e2 | e2
        · exact e2.symm
        · exact absurd (h1a b e2) (asy _ _ (h2a a e))
    subst e
    rw [srt_ext irr asy h1b h2b fun x => ?_]
    constructor
    · intro hx
      rcases List.mem_cons.1 ((h x).1 (List.mem_cons_of_mem _ hx)) with rfl | e
      · exact absurd (h1a x hx) (irr x)
      · exact e
    · intro hx
      rcases List.mem_cons.1 ((h x).2 (List.mem_cons_of_mem _ hx)) with rfl | e
      · exact absurd (h2a x hx) (irr x)
      · exact e
theorem PW.tmo {s : PS} (h : PW s) (x : Qp) : PW (s.tmo x) := by
  have hsub : (s.Q.filter fun y => decide (y.who ≠ x.who)).Sublist s.Q := List.filter_sublist ..
  exact ⟨(tmo_R h.ph x).ph, h.nd.sublist (hsub.map _), ⟨fun y hy => h.qk.pos y ((hsub.map _).subset hy), h.qk.ord.sublist (hsub.map _)⟩, h.si⟩
theorem late_in {s : PS} {now : Nat} {x : Qp} (h : x ∈ s.Q) (hd : x.dl ≤ now) : x ∈ s.late now := (late_perm s now).mem_iff.2 (List.mem_filter.2 ⟨h, decide_eq_true hd⟩)
theorem soon_some {s : PS} {now j : Nat} (hj : (rsOf s).soon now = some j) : ∃ y, s.Q[j]? = some y ∧ (rsOf s).Q[j]? = some (y.who, y.dl) ∧ y.dl ≤ now := by
  obtain ⟨_, z, hz, hp⟩ := selK_lt hj
  have hz2 : (s.Q.map fun x : Qp => (x.who, x.dl))[j]? = some z := hz
  rw [List.getElem?_map] at hz2
  cases hy : s.Q[j]? with
  | none => rw [hy] at hz2; cases hz2
  | some y =>
    rw [hy] at hz2
    obtain rfl := Option.some.inj hz2
    exact ⟨y, rfl, hz, (of_decide_eq_true hp).2⟩
theorem late_step {s : PS} {now : Nat} {x : Qp} {l : List Qp} (h : PW s) (hb : now < 18446744073709551615) (hl : s.late now = x :: l) : (s.tmo x).late now = l ∧ ∃ j, (rsOf s).soon now = some j ∧ (rsOf s).Q[j]? = some (x.who, x.dl) := by
  have hs := late_srt h.qk now
  rw [hl] at hs
  obtain ⟨hs1, hs2⟩ := List.pairwise_cons.1 hs
  have hn := late_nodup h.nd now
  rw [hl, List.map_cons, List.nodup_cons] at hn
  obtain ⟨hx, hxd⟩ := late_mem (s := s) (now := now) (x := x) (by rw [hl]; exact List.mem_cons_self ..)
  constructor
  · refine srt_ext (lt := ltQ) (fun a => by show ¬ (a.dl < a.dl ∨ (a.dl = a.dl ∧ a.t < a.t)); omega) (fun a b => by show (a.dl < b.dl ∨ (a.dl = b.dl ∧ a.t < b.t)) → ¬ (b.dl < a.dl ∨ (b.dl = a.dl ∧ b.t < a.t)); omega) (late_srt (h.tmo x).qk now) hs2 fun y => ?_
    constructor
    · intro hy
      obtain ⟨h1, h2⟩ := late_mem hy
      obtain ⟨h3, h4⟩ := List.mem_filter.1 (show y ∈ s.Q.filter (fun z => decide (z.who ≠ x.who)) from h1)
      have h5 := late_in h3 h2
      rw [hl] at h5
      rcases List.mem_cons.1 h5 with rfl | h5
      · exact absurd rfl (of_decide_eq_true h4)
      · exact h5
    · intro hy
      obtain ⟨h1, h2⟩ := late_mem (s := s) (now := now) (x := y) (by rw [hl]; exact List.mem_cons_of_mem _ hy)
      refine late_in ?_ h2
      show y ∈ s.Q.filter (fun z => decide (z.who ≠ x.who))
      exact List.mem_filter.2 ⟨h1, decide_eq_true fun e => hn.1 (by rw [← e]; exact List.mem_map_of_mem hy)⟩
  · obtain ⟨i, hi⟩ := List.mem_iff_getElem?.1 hx
    have hi2 : (rsOf s).Q[i]? = some (x.who, x.dl) := by
      show (s.Q.map fun x : Qp => (x.who, x.dl))[i]? = _
      rw [List.getElem?_map, hi]; rfl
    have hil := (List.getElem?_eq_some_iff.1 hi2).1
    have hpx : pLate now (x.who, x.dl) = true := decide_eq_true ⟨by dsimp only; omega, hxd⟩
    cases ho : (rsOf s).soon now with
    | none => rw [selK_none ho i _ hil hi2] at hpx; cases hpx
    | some j =>
      obtain ⟨y, hy, hy2, hyd⟩ := soon_some ho
      obtain ⟨z, hz, _, hm⟩ := selK_min (v := fun x : Wp => x.2) (fun _ _ => rfl) ho
      rw [hy2] at hz
      obtain rfl := Option.some.inj hz
      have h1 := hm i _ hil hi2 hpx
      dsimp only at h1
      have h5 := late_in (List.mem_of_getElem? hy) hyd
      rw [hl] at h5
      rcases List.mem_cons.1 h5 with rfl | h5
      · exact ⟨j, rfl, hy2⟩
      · have h6 : x.dl < y.dl ∨ (x.dl = y.dl ∧ x.t < y.t) := hs1 y h5
        exfalso
        rcases h1 with h1 | ⟨h1, h1b⟩
        · omega
        · have h7 : y.t ≤ x.t := by
            rcases Nat.lt_or_eq_of_le h1b with h8 | rfl
            · have ho := h.qk.ord
              rw [List.pairwise_map] at ho
              obtain ⟨g1, g2⟩ := List.getElem?_eq_some_iff.1 hy
              obtain ⟨g3, g4⟩ := List.getElem?_eq_some_iff.1 hi
              have := List.pairwise_iff_getElem.1 ho j i g1 g3 h8
              rw [g2, g4] at this
              exact Nat.le_of_lt this
            · rw [hi] at hy; rw [Option.some.inj hy]; exact Nat.le_refl _
          omega
theorem ro_advQ {now : Nat} (hb : now < 18446744073709551615) : ∀ (n : Nat) {s : PS}, PW s → s.Q.length ≤ n → advQ now n (rsOf s) = rsOf ((s.late now).foldl PS.tmo s)
  | n, s, h, hn => by
    cases hl : s.late now with
    | nil =>
      rw [List.foldl_nil, advQ_none]
      cases ho : (rsOf s).soon now with
      | none => rfl
      | some j =>
        obtain ⟨y, hy, _, hyd⟩ := soon_some ho
        have := late_in (List.mem_of_getElem? hy) hyd
        rw [hl] at this; cases this
    | cons x l =>
      obtain ⟨h1, j, h2, h3⟩ := late_step h hb hl
      cases n with
      | zero =>
        have := (late_mem (s := s) (now := now) (x := x) (by rw [hl]; exact List.mem_cons_self ..)).1
        have h9 := List.length_pos_of_mem this
        omega
      | succ n =>
        have hlt : (s.tmo x).Q.length < s.Q.length := by
          show (s.Q.filter fun y => decide (y.who ≠ x.who)).length < _
          rw [List.length_filter_lt_length_iff_exists]
          exact ⟨x, (late_mem (s := s) (now := now) (x := x) (by rw [hl]; exact List.mem_cons_self ..)).1, by simp⟩
        have ih := ro_advQ hb n (h.tmo x) (by omega)
        rw [h1] at ih
        rw [advQ_some h2 h3, List.foldl_cons, ← ih, ro_leave, ro_tell]; rfl
theorem shut_eq {s : PS} (h : PH s) {k : Nat} {x : Cn} (hx : s.C[k]? = some x) (hs : x.st = 3) : s.shut (k : Int) = (s.tell 5 (-1) (k : Int)).set k ⟨0, 0, 0⟩ := by
  have hQ : s.Q = [] := idle_Q h (fun e => by have := cn_pos hx hs; rw [cn_nil e] at this; omega)
  rw [pshut_eq]
  exact PS.next_nil hQ
theorem PW.shut {s : PS} (h : PW s) {k : Nat} {x : Cn} (hx : s.C[k]? = some x) (hs : x.st = 3) : PW (s.shut (k : Int)) := by
  have hp := (shut_R h.ph hx hs).1.ph
  rw [shut_eq h.ph hx hs] at hp ⊢
  exact ⟨hp, h.nd, h.qk, fun y hy => by
    rcases List.mem_or_eq_of_mem_set hy with hy | rfl
    · exact h.si y hy
    · exact Nat.zero_le _⟩
theorem young_not {s : PS} {now : Nat} {a : Int} (h : young s now a = false) : s.keep ≠ 18446744073709551615 ∧ s.keep ≤ now - sinceI s.C a := by
  have := of_decide_eq_false h
  exact ⟨fun e => this (.inl e), by omega⟩
theorem old_in {s : PS} {now k : Nat} {x : Cn} (hx : s.C[k]? = some x) (hs : x.st = 3) (hk : s.keep ≠ 18446744073709551615) (hd : s.keep ≤ now - x.since) : (k : Int) ∈ s.old now := by
  refine (List.mergeSort_perm _ _).mem_iff.2 (List.mem_filter.2 ⟨allI_in hx hs, ?_⟩)
  have : young s now (k : Int) = false := decide_eq_false (by rw [rsince_at hx]; omega)
  rw [this]; rfl
theorem old_srt (s : PS) (now : Nat) : (s.old now).Pairwise (ltA s.C) := by
  have h1 : (s.old now).Pairwise (fun a b => decide (sinceI s.C a < sinceI s.C b ∨ (sinceI s.C a = sinceI s.C b ∧ a ≤ b)) = true) := List.pairwise_mergeSort (fun a b c h1 h2 => by simp only [decide_eq_true_eq] at *; omega) (fun a b => by simp only [Bool.or_eq_true, decide_eq_true_eq]; omega) _
  have h2 := old_nodup s now
  rw [List.nodup_iff_pairwise_ne] at h2
  refine (h1.and h2).imp fun {a b} ⟨h3, h4⟩ => ?_
  simp only [decide_eq_true_eq] at h3
  show sinceI s.C a < sinceI s.C b ∨ (sinceI s.C a = sinceI s.C b ∧ a < b)
  omega
theorem oldest_some {s : PS} {now j : Nat} (hj : (rsOf s).oldest now = some j) : ∃ (k : Nat) (y : Cn), s.C[k]? = some y ∧ (rsOf s).R[j]? = some ⟨(k : Int), y.st, y.who, y.since⟩ ∧ y.st = 3 ∧ s.keep ≤ now - y.since := by
  obtain ⟨_, z, hz, hp⟩ := selK_lt hj
  obtain ⟨i, x, hx, hx0, e⟩ := rcF_mem (List.mem_of_getElem? hz)
  rw [Nat.zero_add] at e
  subst e
  have h9 := of_decide_eq_true hp
  exact ⟨i, x, hx, hz, h9.1, h9.2⟩
theorem old_step {s : PS} {now : Nat} {a : Int} {l : List Int} (h : PW s) (hl : s.old now = a :: l) : ∃ (k : Nat) (x : Cn) (j : Nat), a = (k : Int) ∧ s.C[k]? = some x ∧ x.st = 3 ∧ (s.shut (k : Int)).old now = l ∧ (rsOf s).oldest now = some j ∧ (rsOf s).R[j]? = some ⟨(k : Int), x.st, x.who, x.since⟩ := by
  obtain ⟨ha, hyo⟩ := old_mem (s := s) (now := now) (a := a) (by rw [hl]; exact List.mem_cons_self ..)
  obtain ⟨k, x, rfl, hx, hx3⟩ := allI_mem ha
  obtain ⟨hk1, hk2⟩ := young_not hyo
  rw [rsince_at hx] at hk2
  have hs := old_srt s now
  rw [hl] at hs
  obtain ⟨hs1, hs2⟩ := List.pairwise_cons.1 hs
  have hn := old_nodup s now
  rw [hl, List.nodup_cons] at hn
  have he := shut_eq h.ph hx hx3
  have hsc : ∀ {b : Int}, b ∈ s.old now → b ≠ (k : Int) → ∃ (i : Nat) (y : Cn), b = (i : Int) ∧ i ≠ k ∧ s.C[i]? = some y ∧ (s.shut (k : Int)).C[i]? = some y ∧ y.st = 3 := fun {b} hb hbk => by
    obtain ⟨i, y, rfl, hy, hy3⟩ := allI_mem (old_mem hb).1
    have hik : i ≠ k := fun e => hbk (by rw [e])
    refine ⟨i, y, rfl, hik, hy, ?_, hy3⟩
    rw [he]; show (s.C.set k _)[i]? = _
    rw [List.getElem?_set_ne (fun e => hik e.symm)]; exact hy
  have hmem : ∀ b, b ∈ (s.shut (k : Int)).old now ↔ b ∈ l := fun b => by
    constructor
    · intro hb
      obtain ⟨h1, h2⟩ := old_mem hb
      obtain ⟨i, y, rfl, hy, hy3⟩ := allI_mem h1
      have hik : i ≠ k := fun e => by
        subst e
        rw [he] at hy
        rw [show ((s.tell 5 (-1) (i : Int)).set i ⟨0, 0, 0⟩).C = s.C.set i ⟨0, 0, 0⟩ from rfl, List.getElem?_set_self (List.getElem?_eq_some_iff.1 hx).1] at hy
        rw [← Option.some.inj hy] at hy3; exact absurd hy3 (by decide)
      obtain ⟨h3, h4⟩ := young_not h2
      rw [rsince_at hy] at h4
      have hy2 : s.C[i]? = some y := by
        rw [he] at hy
        rw [show ((s.tell 5 (-1) (k : Int)).set k ⟨0, 0, 0⟩).C = s.C.set k ⟨0, 0, 0⟩ from rfl, List.getElem?_set_ne (fun e => hik e.symm)] at hy
        exact hy
      rw [he] at h3 h4
      have := old_in (s := s) (now := now) hy2 hy3 h3 h4
      rw [hl] at this
      rcases List.mem_cons.1 this with e | e
      · exact absurd (Int.ofNat.inj e) hik
      · exact e
    · intro hb
      have hb2 : b ∈ s.old now := by rw [hl]; exact List.mem_cons_of_mem _ hb
      obtain ⟨i, y, rfl, hik, hy, hy2, hy3⟩ := hsc hb2 (fun e => hn.1 (by rw [← e]; exact hb))
      obtain ⟨h3, h4⟩ := young_not (old_mem hb2).2
      rw [rsince_at hy] at h4
      exact old_in hy2 hy3 (by rw [he]; exact h3) (by rw [he]; exact h4)
  have hold : (s.shut (k : Int)).old now = l := by
    refine srt_ext (lt := ltA (s.shut (k : Int)).C) (fun a => by show ¬ (_ < _ ∨ (_ = _ ∧ a < a)); omega) (fun a b => by show (_ < _ ∨ (_ = _ ∧ a < b)) → ¬ (_ < _ ∨ (_ = _ ∧ b < a)); omega) (old_srt _ now) ?_ hmem
    refine (pair_mem hs2).imp fun {a b} ⟨ha, hb, hab⟩ => ?_
    obtain ⟨i, y, rfl, hik, hy, hy2, _⟩ := hsc (b := a) (by rw [hl]; exact List.mem_cons_of_mem _ ha) (fun e => hn.1 (by rw [← e]; exact ha))
    obtain ⟨i2, y2, rfl, hik2, hz, hz2, _⟩ := hsc (b := b) (by rw [hl]; exact List.mem_cons_of_mem _ hb) (fun e => hn.1 (by rw [← e]; exact hb))
    have h9 : sinceI s.C (i : Int) < sinceI s.C (i2 : Int) ∨ (sinceI s.C (i : Int) = sinceI s.C (i2 : Int) ∧ (i : Int) < (i2 : Int)) := hab
    rw [rsince_at hy, rsince_at hz] at h9
    show sinceI _ (i : Int) < sinceI _ (i2 : Int) ∨ (sinceI _ (i : Int) = sinceI _ (i2 : Int) ∧ (i : Int) < (i2 : Int))
    rw [rsince_at hy2, rsince_at hz2]; exact h9
  have hin := rcF_in (k := 0) hx (by rw [hx3]; decide)
  rw [Nat.zero_add] at hin
  obtain ⟨i, hi⟩ := List.mem_iff_getElem?.1 hin
  have hil := (List.getElem?_eq_some_iff.1 hi).1
  have hpx : pOld (rsOf s).keep now ⟨(k : Int), x.st, x.who, x.since⟩ = true := decide_eq_true ⟨hx3, hk2⟩
  cases ho : (rsOf s).oldest now with
  | none => rw [selK_none ho i _ hil hi] at hpx; cases hpx
  | some j =>
    obtain ⟨k2, y, hy, hy2, hy3, hyd⟩ := oldest_some ho
    obtain ⟨z, hz, _, hm⟩ := selK_min (v := Cr.since) (fun _ _ => rfl) ho
    have hz2 : (rsOf s).R[j]? = some z := hz
    rw [hy2] at hz2
    obtain rfl := Option.some.inj hz2
    have h1 := hm i _ hil hi hpx
    dsimp only at h1
    have h5 := old_in hy hy3 hk1 hyd
    rw [hl] at h5
    rcases List.mem_cons.1 h5 with e | h5
    · obtain rfl := Int.ofNat.inj e
      rw [hx] at hy; obtain rfl := Option.some.inj hy
      exact ⟨k2, x, j, rfl, hx, hx3, hold, rfl, hy2⟩
    · exfalso
      have h6 : sinceI s.C (k : Int) < sinceI s.C (k2 : Int) ∨ (sinceI s.C (k : Int) = sinceI s.C (k2 : Int) ∧ (k : Int) < (k2 : Int)) := hs1 _ h5
      rw [rsince_at hx, rsince_at hy] at h6
      rcases h1 with h1 | ⟨h1, h1b⟩
      · omega
      · have := srt_le (rcF_srt s.C 0) hy2 hi h1b
        dsimp only at this
        omega
theorem ro_advC {now : Nat} : ∀ (n : Nat) {s : PS}, PW s → s.keep ≠ 18446744073709551615 → s.cnt 3 ≤ n → advC now n (rsOf s) = rsOf ((s.old now).foldl PS.shut s)
  | n, s, h, hk, hn => by
    cases hl : s.old now with
    | nil =>
      rw [List.foldl_nil, advC_none]
      cases ho : (rsOf s).oldest now with
      | none => rfl
      | some j =>
        obtain ⟨k2, y, hy, _, hy3, hyd⟩ := oldest_some ho
        have := old_in hy hy3 hk hyd
        rw [hl] at this; cases this
    | cons a l =>
      obtain ⟨k, x, j, rfl, hx, hx3, h1, h2, h3⟩ := old_step h hl
      have hw := without_cnt 3 h3 hx3
      have he := shut_eq h.ph hx hx3
      have hgo : (rsOf s).without j = rsOf (s.set k ⟨0, 0, 0⟩) := ro_gone h3 rfl
      rw [hgo, ro_cnt (by decide), ro_cnt (by decide)] at hw
      cases n with
      | zero => omega
      | succ n =>
        have ih := ro_advC (now := now) n (h.shut hx hx3) (by rw [he]; exact hk) (by rw [he]; show (s.set k ⟨0, 0, 0⟩).cnt 3 ≤ n; omega)
        rw [h1] at ih
        rw [advC_some h2 h3, List.foldl_cons, ← ih]
        dsimp only
        rw [pshut_eq]
        exact congrArg _ (ro_lose (s := s.tell 5 (-1) (k : Int)) h.ph.len h.ph.op h.nd h3 rfl)
theorem PW.at_ {s : PS} (h : PW s) {now : Nat} (hn : s.now ≤ now) : PW (s.at_ now) := ⟨h.ph.at_ now, h.nd, h.qk, fun x hx => Nat.le_trans (h.si x hx) hn⟩
theorem PW.tmos : ∀ (l : List Qp) {s : PS}, PW s → PW (l.foldl PS.tmo s) ∧ (l.foldl PS.tmo s).keep = s.keep ∧ (l.foldl PS.tmo s).C = s.C
  | [], _, h => ⟨h, rfl, rfl⟩
  | x :: r, s, h => PW.tmos r (h.tmo x)
theorem ro_adv {s : PS} (h : PW s) (now : Nat) (hb : now ≤ 18446744073709551615) : (rsOf s).adv now = (rsOf (s.advance now), s.may true now) := by
  by_cases hm : s.may true now = 0
  · obtain ⟨_, h1, h2⟩ := may_zero hm
    have hb2 : now < 18446744073709551615 := by omega
    have ha := h.at_ h1
    have hq := ro_advQ hb2 s.Q.length ha (Nat.le_refl _)
    obtain ⟨w1, w2, w3⟩ := PW.tmos ((s.at_ now).late now) ha
    have hql : (rsOf s).Q.length = s.Q.length := List.length_map _
    have hadv : s.advance now = ((s.adv1 now).old now).foldl PS.shut (s.adv1 now) := by unfold PS.advance; rw [if_neg (by rw [hm]; decide)]
    unfold RS.adv
    rw [if_neg (fun e => e hm), hm]
    refine congrArg (·, (0 : Int)) ?_
    unfold advA
    rw [hadv, hql, ro_at, hq]
    show (if s.keep = 18446744073709551615 then rsOf (s.adv1 now) else advC now _ (rsOf (s.adv1 now))) = _
    by_cases hk : s.keep = 18446744073709551615
    · rw [if_pos hk]
      have : (s.adv1 now).old now = [] := by
        cases hl : (s.adv1 now).old now with
        | nil => rfl
        | cons a l =>
          have h9 := (old_mem (s := s.adv1 now) (now := now) (a := a) (by rw [hl]; exact List.mem_cons_self ..)).2
          exact absurd (w2.trans hk) (young_not h9).1
      rw [this]; rfl
    · rw [if_neg hk]
      refine ro_advC _ w1 (fun e => hk (w2.symm.trans e)) ?_
      have h9 : (s.adv1 now).cnt 3 = s.cnt 3 := by show (allI 3 (s.adv1 now).C).length = _; rw [show (s.adv1 now).C = s.C from w3]; rfl
      rw [h9, ← ro_cnt (by decide)]
      exact List.countP_le_length
  · rw [ra_bad (r := rsOf s) hm]
    unfold PS.advance; rw [if_pos hm]; rfl
end Go.Proofs.Yteofigbgdbpjgaa
end
section
set_option linter.unusedVariables false
namespace Go.Proofs.Yteofigbgdbpjgaa
section
variable {X : Ctx} {E : Env} {H : Heap} {o : Oper}
theorem OwnS.at_all {ob : Option Nat} {k n c sz : Nat} {pre xs tl : List Value} (h : OwnS ob k n c sz pre xs tl) : At (pre ++ (xs ++ tl)) k xs := fun j v hj => by
  have hl := (List.getElem?_eq_some_iff.1 hj).1
  have hn : 0 < n := by
    rcases Nat.eq_zero_or_pos n with e | e
    · have := h.len; rw [e, Nat.zero_mul] at this; omega
    · exact e
  have h4 := h.at_ hn
  rw [List.getElem?_append_right (by omega), show k + j - pre.length = j from by omega, List.getElem?_append_left hl]; exact hj
theorem D_appendSV {t e e2 : TypeId} {sz bytes n c m mc k2 : Nat} {zs xs tl pre news ty : List Value} {ob oy : Option Nat} {x y : Operand} {F : Heap}
    (ho : o.op = .call { callee := .builtin .append, args := #[x, y], argTypes := #[t, t] }) (hs : SI X.P t e sz bytes zs) (hx : ev E x = some (slV ob n c)) (hown : Own ob n c sz xs tl) (hp : Pull ⟨ob, cl (xs ++ tl) e⟩ H F)
    (hy : ev E y = some (sVal oy k2 m mc)) (hk2 : oy = none → k2 = 0) (hown2 : OwnS oy k2 m mc sz pre news ty) (hm : (⟨oy, cl (pre ++ (news ++ ty)) e2⟩ : Ent) ∈ H) (h1 : news.all Value.oneCell' = true) (hroom : (n + m) * bytes ≤ 140737488355328) (h63 : n + m ≤ 9223372036854775807) :
    Does X o E H (fun v H' => ∃ ob' c' tl', v = slV ob' (n + m) c' ∧ Own ob' (n + m) c' sz (xs ++ news) tl' ∧ H' = ⟨ob', cl (xs ++ news ++ tl') e⟩ :: F) := by
  cases oy with
  | some b2 => exact D_append ho hs hx hown hp hy hm hown2.at_all hown2.len h1 hroom h63
  | none =>
    obtain ⟨hc, hpre⟩ := hown2.nil rfl
    subst hc; subst hpre
    have hm0 : m = 0 := by have := hown2.le; omega
    subst hm0
    have hn : news = [] := List.eq_nil_of_length_eq_zero (by simpa using hown2.len)
    subst hn
    have hty : ty = [] := List.eq_nil_of_length_eq_zero (by simpa using hown2.cap)
    subst hty
    have hk : k2 = 0 := hk2 rfl
    subst hk
    exact D_appendO ho hs hx hown hp hy (Own.empty sz) hm rfl hroom h63
end
end Go.Proofs.Yteofigbgdbpjgaa
end
section
set_option linter.unusedVariables false
set_option maxRecDepth 20000
set_option maxHeartbeats 2000000
namespace Go.Proofs.Yteofigbgdbpjgaa
abbrev mdC (M : MM) (r : RS) : Ent := ⟨M.cb, cl (r.R.flatMap encR ++ M.ctl) 139⟩
abbrev mdQ (M : MM) (r : RS) : Ent := ⟨M.qb, cl (r.Q.flatMap encP ++ M.qtl) 144⟩
abbrev mdE (M : MM) (r : RS) : Ent := ⟨M.eb, cl (M.epre ++ (r.E.flatMap encV ++ M.etl)) 44⟩
abbrev mdH (M : MM) (r : RS) : Heap := [mdC M r, mdQ M r, mdE M r]
theorem cnR_next {t : Int} {R : List Cr} {k : Nat} {x : Cr} (h : R[k]? = some x) : (R.take (k + 1)).countP (fun x => decide (x.st = t)) = (R.take k).countP (fun x => decide (x.st = t)) + (if x.st = t then 1 else 0) := by
  rw [take_next h, List.countP_append, List.countP_cons, List.countP_nil]
  by_cases e : x.st = t <;> simp [e]
theorem cnR_nextF {t : Int} {R : List Cr} {k : Nat} {x : Cr} (h : R[k]? = some x) (hc : ¬ x.st = t) : (R.take (k + 1)).countP (fun x => decide (x.st = t)) = (R.take k).countP (fun x => decide (x.st = t)) := by
  rw [cnR_next h, if_neg hc]; rfl
theorem mcount_ok {M : MM} {r : RS} (h : MIs M r) (t : Int) : Spec Try.prog 57 [mdV M r, .int .i64 t] (mdH M r) (fun v H' => v = .int .i64 (r.cnt t : Int) ∧ H' = mdH M r) := by
  have hcl := h.cl
  refine Spec.of (E := [(0, mdV M r), (1, .int .i64 t)]) Try.func57 rfl (by kernel_rfl) Try.ntmps57 rfl rfl (fun w => ?_)
  refine WC_seq ?_
  refine WC_region ?_
  refine WL_do rfl rfl rfl (D_box (cs := [_, _, _, _, _, _, _]) rfl rfl rfl) ?_
  rintro _ _ ⟨b1, rfl, rfl⟩
  refine WL_val rfl rfl rfl (R_assign rfl rfl) ?_
  refine WL_nil ?_
  refine WQ_code ?_
  refine WC_seq ?_
  refine WC_region ?_
  refine WL_val rfl rfl rfl (R_assign rfl rfl) ?_
  refine WL_nil ?_
  refine WQ_code ?_
  refine WC_seq ?_
  refine WC_seq ?_
  refine WC_region ?_
  refine WL_val rfl rfl rfl (R_assign rfl rfl) ?_
  refine WL_nil ?_
  refine WQ_code ?_
  refine WC_block ?_
  refine WC_loopF (G := Nat × Nat) [5, 6, 7, 8, 9, 10, 11, 12, 13, 14, 15, 16, 17, 18, 19, 20, 21, 22, 23] (fun y => y.1 ≤ r.R.length ∧ y.2 = (r.R.take y.1).countP (fun x => decide (x.st = t))) (fun y => [(6, .int .i64 (y.1 : Int)), (5, .int .i64 (y.2 : Int))]) (fun y => []) (fun y => r.R.length - y.1) ((0, 0)) (⟨Nat.zero_le _, rfl⟩) leZ (pqZ) ?_
  rintro y ⟨hk, hn⟩
  refine WC_seq ?_
  refine WC_seq ?_
  refine WC_region ?_
  refine WL_val rfl rfl rfl (R_move rfl rfl) ?_
  refine WL_val rfl rfl rfl (R_fieldAddr rfl fa58_4 rfl) ?_
  refine WL_val rfl rfl rfl (R_load rfl sc54 rfl (mmZ) rfl) ?_
  refine WL_val rfl rfl rfl (R_len rfl Try.underlying54 rfl) ?_
  refine WL_val rfl rfl rfl (R_lss rfl rfl rfl) ?_
  refine WL_nil ?_
  refine WQ_code ?_
  refine WC_dec rfl (fun c1 => ?_) (fun c1 => ?_)
  · refine WC_skip ?_
    refine WQ_code ?_
    refine WC_seq ?_
    refine WC_block ?_
    refine WC_seq ?_
    refine WC_region ?_
    obtain ⟨x, hx⟩ := getE (T := r.R) (i := y.1) (by omega)
    obtain ⟨wc, hwc⟩ := h.c.some_of (by omega)
    have hbd : y.2 ≤ y.1 := by rw [hn]; have := List.countP_le_length (p := fun x : Cr => decide (x.st = t)) (l := r.R.take y.1); rw [List.length_take] at this; omega
    refine WL_val rfl rfl rfl (R_fieldAddr rfl fa58_4 rfl) ?_
    refine WL_val rfl rfl rfl (R_load rfl sc54 rfl (mmZ) rfl) ?_
    refine WL_val rfl rfl rfl (R_move rfl rfl) ?_
    refine WL_val rfl rfl rfl (R_idxO hwc rfl Try.underlying54 Try.sizeOf139 rfl rfl (by omega)) ?_
    refine WL_val rfl rfl rfl (R_fieldAddr rfl fa139_1 rfl) ?_
    refine WL_val rfl rfl rfl (R_loadO (v := .int .i64 x.st) hwc rfl sc3 rfl (mmZ) (fm_get0 encR4 hx (j := 1) (by omega))) ?_
    refine WL_val rfl rfl rfl (R_move rfl rfl) ?_
    refine WL_val rfl rfl rfl (R_eql rfl rfl rfl) ?_
    refine WL_nil ?_
    refine WQ_code ?_
    refine WC_dec rfl (fun c2 => ?_) (fun c2 => ?_)
    · have hnx := cnR_next (t := t) hx
      rw [if_pos c2] at hnx
      refine WC_region ?_
      refine WL_val rfl rfl rfl (R_move rfl rfl) ?_
      refine WL_val rfl rfl rfl (R_add rfl rfl rfl (by omega)) ?_
      refine WL_val rfl rfl rfl (R_assign rfl rfl) ?_
      refine WL_nil ?_
      refine WQ_code ?_
      refine WC_region ?_
      refine WL_val rfl rfl rfl (R_move rfl rfl) ?_
      refine WL_val rfl rfl rfl (R_add rfl rfl rfl (by omega)) ?_
      refine WL_val rfl rfl rfl (R_assign rfl rfl) ?_
      refine WL_nil ?_
      refine WQ_nextF ((y.1 + 1, y.2 + 1)) (⟨by dsimp only; omega, by dsimp only; rw [hnx, ← hn]⟩) (by dsimp only; omega) leZ (psZ) rfl (pqZ)
    · have hnx := cnR_nextF (t := t) hx c2
      refine WC_skip ?_
      refine WQ_code ?_
      refine WC_region ?_
      refine WL_val rfl rfl rfl (R_move rfl rfl) ?_
      refine WL_val rfl rfl rfl (R_add rfl rfl rfl (by omega)) ?_
      refine WL_val rfl rfl rfl (R_assign rfl rfl) ?_
      refine WL_nil ?_
      refine WQ_nextF ((y.1 + 1, y.2)) (⟨by dsimp only; omega, by dsimp only; rw [hnx, ← hn]⟩) (by dsimp only; omega) leZ (psZ) rfl (pqZ)
  · have hkl : y.1 = r.R.length := by omega
    refine WC_exit ?_
    refine WQ_code ?_
    refine WC_seq ?_
    refine WC_region ?_
    refine WL_val rfl rfl rfl (R_move rfl rfl) ?_
    refine WL_val rfl rfl rfl (R_assign rfl rfl) ?_
    refine WL_nil ?_
    refine WQ_code ?_
    refine WC_ret ?_
    rw [hkl, List.take_length] at hn
    rw [hn]
    refine WQ_ret rfl rfl (.cons (.tmp rfl) .nil) rfl (by
        exact ⟨rfl, rfl⟩) (pqZ)
theorem mfind_ok {M : MM} {r : RS} (h : MIs M r) (num t : Int) : Spec Try.prog 83 [mdV M r, .int .i64 num, .int .i64 t] (mdH M r) (fun v H' => v = .int .i64 (findR num t r.R) ∧ H' = mdH M r) := by
  have hcl := h.cl
  refine Spec.of (E := [(0, mdV M r), (1, .int .i64 num), (2, .int .i64 t)]) Try.func83 rfl (by kernel_rfl) Try.ntmps83 rfl rfl (fun w => ?_)
  refine WC_seq ?_
  refine WC_region ?_
  refine WL_do rfl rfl rfl (D_box (cs := [_, _, _, _, _, _, _]) rfl rfl rfl) ?_
  rintro _ _ ⟨b1, rfl, rfl⟩
  refine WL_val rfl rfl rfl (R_assign rfl rfl) ?_
  refine WL_nil ?_
  refine WQ_code ?_
  refine WC_seq ?_
  refine WC_seq ?_
  refine WC_region ?_
  refine WL_val rfl rfl rfl (R_assign rfl rfl) ?_
  refine WL_nil ?_
  refine WQ_code ?_
  refine WC_block ?_
  refine WC_loopF (G := Nat) [6, 7, 8, 9, 10, 11, 12, 13, 14, 15, 16, 17, 18, 19, 20, 21, 22, 23, 24, 25, 26, 27, 28, 29, 30, 31, 32, 33] (fun k => k ≤ r.R.length ∧ ∀ y ∈ r.R.take k, ¬ (y.num = num ∧ y.st = t)) (fun k => [(7, .int .i64 (k : Int))]) (fun k => []) (fun k => r.R.length - k) (0) (⟨Nat.zero_le _, fun y hy => by simp at hy⟩) leZ (pqZ) ?_
  rintro k ⟨hk, hz⟩
  refine WC_seq ?_
  refine WC_seq ?_
  refine WC_region ?_
  refine WL_val rfl rfl rfl (R_move rfl rfl) ?_
  refine WL_val rfl rfl rfl (R_fieldAddr rfl fa58_4 rfl) ?_
  refine WL_val rfl rfl rfl (R_load rfl sc54 rfl (mmZ) rfl) ?_
  refine WL_val rfl rfl rfl (R_len rfl Try.underlying54 rfl) ?_
  refine WL_val rfl rfl rfl (R_lss rfl rfl rfl) ?_
  refine WL_nil ?_
  refine WQ_code ?_
  refine WC_dec rfl (fun c1 => ?_) (fun c1 => ?_)
  · refine WC_skip ?_
    refine WQ_code ?_
    refine WC_seq ?_
    refine WC_block ?_
    refine WC_seq ?_
    refine WC_region ?_
    obtain ⟨x, hx⟩ := getE (T := r.R) (i := k) (by omega)
    obtain ⟨wc, hwc⟩ := h.c.some_of (by omega)
    refine WL_val rfl rfl rfl (R_fieldAddr rfl fa58_4 rfl) ?_
    refine WL_val rfl rfl rfl (R_load rfl sc54 rfl (mmZ) rfl) ?_
    refine WL_val rfl rfl rfl (R_move rfl rfl) ?_
    refine WL_val rfl rfl rfl (R_idxO hwc rfl Try.underlying54 Try.sizeOf139 rfl rfl (by omega)) ?_
    refine WL_val rfl rfl rfl (R_fieldAddr rfl fa139_0 rfl) ?_
    refine WL_val rfl rfl rfl (R_loadO (v := .int .i64 x.num) hwc rfl sc3 rfl (mmZ) (fm_get0 encR4 hx (j := 0) (by omega))) ?_
    refine WL_val rfl rfl rfl (R_move rfl rfl) ?_
    refine WL_val rfl rfl rfl (R_eql rfl rfl rfl) ?_
    refine WL_val rfl rfl rfl (R_move rfl rfl) ?_
    refine WL_splitD (s := 23) rfl (fun c2 => ?_) (fun c2 => ?_)
    · have hg1 := c2
      refine WL_val rfl rfl rfl (R_fieldAddr rfl fa58_4 rfl) ?_
      refine WL_val rfl rfl rfl (R_load rfl sc54 rfl (mmZ) rfl) ?_
      refine WL_val rfl rfl rfl (R_move rfl rfl) ?_
      refine WL_val rfl rfl rfl (R_idxO hwc rfl Try.underlying54 Try.sizeOf139 rfl rfl (by omega)) ?_
      refine WL_val rfl rfl rfl (R_fieldAddr rfl fa139_1 rfl) ?_
      refine WL_val rfl rfl rfl (R_loadO (v := .int .i64 x.st) hwc rfl sc3 rfl (mmZ) (fm_get0 encR4 hx (j := 1) (by omega))) ?_
      refine WL_val rfl rfl rfl (R_move rfl rfl) ?_
      refine WL_val rfl rfl rfl (R_eql rfl rfl rfl) ?_
      refine WL_val rfl rfl rfl (R_pickT rfl rfl rfl) ?_
      refine WL_nil ?_
      refine WQ_code ?_
      refine WC_dec rfl (fun c3 => ?_) (fun c3 => ?_)
      · have hct : x.num = num ∧ x.st = t := ⟨hg1, c3⟩
        refine WC_seq ?_
        refine WC_region ?_
        refine WL_val rfl rfl rfl (R_move rfl rfl) ?_
        refine WL_val rfl rfl rfl (R_assign rfl rfl) ?_
        refine WL_nil ?_
        refine WQ_code ?_
        refine WC_ret ?_
        refine WQ_ret rfl rfl (.cons (.tmp rfl) .nil) rfl (by
            first | exact ⟨congrArg (Value.int .i64) (findR_hit hz hx hct).symm, rfl⟩ | exact ⟨congrArg (Value.int .i64) (findR_none (by rw [hkl, List.take_length] at hz; exact hz)).symm, rfl⟩) (pqZ)
      · have hcf : ¬ (x.num = num ∧ x.st = t) := fun e => c3 e.2
        refine WC_skip ?_
        refine WQ_code ?_
        refine WC_region ?_
        refine WL_val rfl rfl rfl (R_move rfl rfl) ?_
        refine WL_val rfl rfl rfl (R_add rfl rfl rfl (by omega)) ?_
        refine WL_val rfl rfl rfl (R_assign rfl rfl) ?_
        refine WL_nil ?_
        refine WQ_nextF (k + 1) (⟨by omega, fun y hy => by rw [take_next hx] at hy; rcases List.mem_append.1 hy with hy | hy; exact hz y hy; rw [List.mem_singleton.1 hy]; exact hcf⟩) (by omega) leZ (psZ) rfl (pqZ)
    · have hcf : ¬ (x.num = num ∧ x.st = t) := fun e => c2 e.1
      refine WL_skip rfl rfl rfl ?_
      refine WL_skip rfl rfl rfl ?_
      refine WL_skip rfl rfl rfl ?_
      refine WL_skip rfl rfl rfl ?_
      refine WL_skip rfl rfl rfl ?_
      refine WL_skip rfl rfl rfl ?_
      refine WL_skip rfl rfl rfl ?_
      refine WL_skip rfl rfl rfl ?_
      refine WL_val rfl rfl rfl (R_pickF rfl rfl rfl) ?_
      refine WL_nil ?_
      refine WQ_code ?_
      refine WC_F rfl ?_
      refine WC_skip ?_
      refine WQ_code ?_
      refine WC_region ?_
      refine WL_val rfl rfl rfl (R_move rfl rfl) ?_
      refine WL_val rfl rfl rfl (R_add rfl rfl rfl (by omega)) ?_
      refine WL_val rfl rfl rfl (R_assign rfl rfl) ?_
      refine WL_nil ?_
      refine WQ_nextF (k + 1) (⟨by omega, fun y hy => by rw [take_next hx] at hy; rcases List.mem_append.1 hy with hy | hy; exact hz y hy; rw [List.mem_singleton.1 hy]; exact hcf⟩) (by omega) leZ (psZ) rfl (pqZ)
  · have hkl : k = r.R.length := by omega
    refine WC_exit ?_
    refine WQ_code ?_
    refine WC_seq ?_
    refine WC_region ?_
    refine WL_val rfl rfl rfl (R_assign rfl rfl) ?_
    refine WL_nil ?_
    refine WQ_code ?_
    refine WC_ret ?_
    refine WQ_ret rfl rfl (.cons (.tmp rfl) .nil) rfl (by
        first | exact ⟨congrArg (Value.int .i64) (findR_hit hz hx hct).symm, rfl⟩ | exact ⟨congrArg (Value.int .i64) (findR_none (by rw [hkl, List.take_length] at hz; exact hz)).symm, rfl⟩) (pqZ)
theorem mwrong_ok {M : MM} {r : RS} (h : MIs M r) (right : Bool) (now : Nat) : Spec Try.prog 61 [mdV M r, .bool right, .int .u64 (now : Int)] (mdH M r) (fun v H' => v = .int .i64 (r.may right now) ∧ H' = mdH M r) := by
  refine Spec.of (E := [(0, mdV M r), (1, .bool right), (2, .int .u64 (now : Int))]) Try.func61 rfl (by kernel_rfl) Try.ntmps61 rfl rfl (fun w => ?_)
  refine WC_seq ?_
  refine WC_region ?_
  refine WL_do rfl rfl rfl (D_box (cs := [_, _, _, _, _, _, _]) rfl rfl rfl) ?_
  rintro _ _ ⟨b1, rfl, rfl⟩
  refine WL_val rfl rfl rfl (R_assign rfl rfl) ?_
  refine WL_nil ?_
  refine WQ_code ?_
  refine WC_seq ?_
  refine WC_seq ?_
  refine WC_region ?_
  refine WL_val rfl rfl rfl (R_move rfl rfl) ?_
  refine WL_val rfl rfl rfl (R_not rfl rfl) ?_
  refine WL_nil ?_
  refine WQ_code ?_
  refine WC_if rfl (fun c1 => ?_) (fun c1 => ?_)
  · have hr : right = false := by simpa using c1
    refine WC_seq ?_
    refine WC_region ?_
    refine WL_val rfl rfl rfl (R_assign rfl rfl) ?_
    refine WL_nil ?_
    refine WQ_code ?_
    refine WC_ret ?_
    refine WQ_ret rfl rfl (.cons (.tmp rfl) .nil) rfl (by
        first | exact ⟨congrArg (Value.int .i64) (by unfold RS.may; rw [if_pos hr]), rfl⟩ | exact ⟨congrArg (Value.int .i64) (by unfold RS.may; rw [if_neg (by rw [hr]; decide), if_pos (by omega)]), rfl⟩ | exact ⟨congrArg (Value.int .i64) (by unfold RS.may; rw [if_neg (by rw [hr]; decide), if_neg (by omega)]), rfl⟩) (pqZ)
  · have hr : right = true := by simpa using c1
    refine WC_skip ?_
    refine WQ_code ?_
    refine WC_seq ?_
    refine WC_seq ?_
    refine WC_region ?_
    refine WL_val rfl rfl rfl (R_move rfl rfl) ?_
    refine WL_val rfl rfl rfl (R_fieldAddr rfl fa58_3 rfl) ?_
    refine WL_val rfl rfl rfl (R_load rfl sc28 rfl (mmZ) rfl) ?_
    refine WL_val rfl rfl rfl (R_lss rfl rfl rfl) ?_
    refine WL_val rfl rfl rfl (R_move rfl rfl) ?_
    refine WL_splitD (s := 13) rfl (fun c2 => ?_) (fun c2 => ?_)
    · refine WL_skip rfl rfl rfl ?_
      refine WL_skip rfl rfl rfl ?_
      refine WL_val rfl rfl rfl (R_pickT rfl rfl rfl) ?_
      refine WL_nil ?_
      refine WQ_code ?_
      refine WC_T rfl ?_
      refine WC_seq ?_
      refine WC_region ?_
      refine WL_val rfl rfl rfl (R_assign rfl rfl) ?_
      refine WL_nil ?_
      refine WQ_code ?_
      refine WC_ret ?_
      refine WQ_ret rfl rfl (.cons (.tmp rfl) .nil) rfl (by
          first | exact ⟨congrArg (Value.int .i64) (by unfold RS.may; rw [if_pos hr]), rfl⟩ | exact ⟨congrArg (Value.int .i64) (by unfold RS.may; rw [if_neg (by rw [hr]; decide), if_pos (by omega)]), rfl⟩ | exact ⟨congrArg (Value.int .i64) (by unfold RS.may; rw [if_neg (by rw [hr]; decide), if_neg (by omega)]), rfl⟩) (pqZ)
    · refine WL_val rfl rfl rfl (R_move rfl rfl) ?_
      refine WL_val rfl rfl rfl (R_eql rfl rfl rfl) ?_
      refine WL_val rfl rfl rfl (R_pickF rfl rfl rfl) ?_
      refine WL_nil ?_
      refine WQ_code ?_
      refine WC_dec rfl (fun c3 => ?_) (fun c3 => ?_)
      · refine WC_seq ?_
        refine WC_region ?_
        refine WL_val rfl rfl rfl (R_assign rfl rfl) ?_
        refine WL_nil ?_
        refine WQ_code ?_
        refine WC_ret ?_
        refine WQ_ret rfl rfl (.cons (.tmp rfl) .nil) rfl (by
            first | exact ⟨congrArg (Value.int .i64) (by unfold RS.may; rw [if_pos hr]), rfl⟩ | exact ⟨congrArg (Value.int .i64) (by unfold RS.may; rw [if_neg (by rw [hr]; decide), if_pos (by omega)]), rfl⟩ | exact ⟨congrArg (Value.int .i64) (by unfold RS.may; rw [if_neg (by rw [hr]; decide), if_neg (by omega)]), rfl⟩) (pqZ)
      · refine WC_skip ?_
        refine WQ_code ?_
        refine WC_seq ?_
        refine WC_region ?_
        refine WL_val rfl rfl rfl (R_assign rfl rfl) ?_
        refine WL_nil ?_
        refine WQ_code ?_
        refine WC_ret ?_
        refine WQ_ret rfl rfl (.cons (.tmp rfl) .nil) rfl (by
            first | exact ⟨congrArg (Value.int .i64) (by unfold RS.may; rw [if_pos hr]), rfl⟩ | exact ⟨congrArg (Value.int .i64) (by unfold RS.may; rw [if_neg (by rw [hr]; decide), if_pos (by omega)]), rfl⟩ | exact ⟨congrArg (Value.int .i64) (by unfold RS.may; rw [if_neg (by rw [hr]; decide), if_neg (by omega)]), rfl⟩) (pqZ)
theorem mleave_ok {M : MM} {r : RS} (h : MIs M r) (who : Int) : Spec Try.prog 63 [mdV M r, .int .i64 who] (mdH M r) (fun v H' => ∃ qb qc qtl, v = mdV { M with qb := qb, qc := qc, qtl := qtl } (r.leave who) ∧ H' = mdQ { M with qb := qb, qc := qc, qtl := qtl } (r.leave who) :: mdH M r ∧ MIs { M with qb := qb, qc := qc, qtl := qtl } (r.leave who)) := by
  have hql := h.ql
  refine Spec.of (E := [(0, mdV M r), (1, .int .i64 who)]) Try.func63 rfl (by kernel_rfl) Try.ntmps63 rfl rfl (fun w => ?_)
  refine WC_seq ?_
  refine WC_region ?_
  refine WL_do rfl rfl rfl (D_box (cs := [_, _, _, _, _, _, _]) rfl rfl rfl) ?_
  rintro _ _ ⟨b1, rfl, rfl⟩
  refine WL_do rfl rfl rfl (D_alloc rfl zv58) ?_
  rintro _ _ ⟨b2, rfl, rfl⟩
  refine WL_nil ?_
  refine WQ_code ?_
  refine WC_seq ?_
  refine WC_region ?_
  refine WL_val rfl rfl rfl (R_assign rfl rfl) ?_
  refine WL_nil ?_
  refine WQ_code ?_
  refine WC_seq ?_
  refine WC_seq ?_
  refine WC_region ?_
  refine WL_val rfl rfl rfl (R_assign rfl rfl) ?_
  refine WL_nil ?_
  refine WQ_code ?_
  refine WC_block ?_
  refine WC_none 144 ?_
  refine WC_loopF (G := LvW) [5, 6, 7, 8, 9, 10, 11, 12, 13, 14, 15, 16, 17, 18, 19, 20, 21, 22, 23, 24, 25, 26, 27, 28, 29] (fun y => y.k ≤ r.Q.length ∧ y.l = (r.Q.take y.k).filter (fun x => decide (x.1 ≠ who)) ∧ Own y.ob y.l.length y.c 2 (y.l.flatMap encP) y.tl) (fun y => [(6, .int .i64 (y.k : Int)), (5, slV y.ob y.l.length y.c)]) (fun y => [⟨y.ob, cl (y.l.flatMap encP ++ y.tl) 144⟩]) (fun y => r.Q.length - y.k) (⟨0, [], none, 0, []⟩) (⟨Nat.zero_le _, rfl, Own.empty 2⟩) leZ (pqZ) ?_
  rintro y ⟨hk, hyl, hlo⟩
  refine WC_seq ?_
  refine WC_seq ?_
  refine WC_region ?_
  refine WL_val rfl rfl rfl (R_move rfl rfl) ?_
  refine WL_val rfl rfl rfl (R_fieldAddr rfl fa58_5 rfl) ?_
  refine WL_val rfl rfl rfl (R_load rfl sc55 rfl (mmZ) rfl) ?_
  refine WL_val rfl rfl rfl (R_len rfl Try.underlying55 rfl) ?_
  refine WL_val rfl rfl rfl (R_lss rfl rfl rfl) ?_
  refine WL_nil ?_
  refine WQ_code ?_
  refine WC_dec rfl (fun c1 => ?_) (fun c1 => ?_)
  · refine WC_skip ?_
    refine WQ_code ?_
    refine WC_seq ?_
    refine WC_block ?_
    refine WC_seq ?_
    refine WC_region ?_
    obtain ⟨x, hx⟩ := getE (T := r.Q) (i := y.k) (by omega)
    obtain ⟨wq, hwq⟩ := h.q.some_of (by omega)
    have hll : y.l.length ≤ 1001 := by rw [hyl]; have := List.length_filter_le (fun x : Wp => decide (x.1 ≠ who)) (r.Q.take y.k); rw [List.length_take] at this; omega
    refine WL_val rfl rfl rfl (R_fieldAddr rfl fa58_5 rfl) ?_
    refine WL_val rfl rfl rfl (R_load rfl sc55 rfl (mmZ) rfl) ?_
    refine WL_val rfl rfl rfl (R_move rfl rfl) ?_
    refine WL_val rfl rfl rfl (R_idxO hwq rfl Try.underlying55 Try.sizeOf144 rfl rfl (by omega)) ?_
    refine WL_val rfl rfl rfl (R_fieldAddr rfl fa144_0 rfl) ?_
    refine WL_val rfl rfl rfl (R_loadO (v := .int .i64 x.1) hwq rfl sc3 rfl (mmZ) (fm_get0 encP2 hx (j := 0) (by omega))) ?_
    refine WL_val rfl rfl rfl (R_move rfl rfl) ?_
    refine WL_val rfl rfl rfl (R_neq rfl rfl rfl) ?_
    refine WL_nil ?_
    refine WQ_code ?_
    refine WC_dec rfl (fun c2 => ?_) (fun c2 => ?_)
    · have hnx := fltQ_next (who := who) hx
      rw [if_pos c2] at hnx
      refine WC_region ?_
      refine WL_val rfl rfl rfl (R_move rfl rfl) ?_
      refine WL_val rfl rfl rfl (R_fieldAddr rfl fa58_5 rfl) ?_
      refine WL_val rfl rfl rfl (R_load rfl sc55 rfl (mmZ) rfl) ?_
      refine WL_val rfl rfl rfl (R_move rfl rfl) ?_
      refine WL_val rfl rfl rfl (R_idxO hwq rfl Try.underlying55 Try.sizeOf144 rfl rfl (by omega)) ?_
      refine WL_val rfl rfl rfl (R_loadAO (vs := [.int .i64 x.1, .int .u64 (x.2 : Int)]) hwq rfl ag144 rfl (mmZ) rfl (fm_at0 encP2 hx (j := 0) (vs := encP x) (fun j v hj => by rw [Nat.zero_add]; exact hj) (Nat.le_refl _))) ?_
      refine WL_do rfl rfl rfl (D_buildSlice rfl si55 rfl rfl rfl) ?_
      rintro _ _ ⟨b3, rfl, rfl⟩
      refine WL_do rfl rfl rfl (D_append rfl si55 rfl (hlo) (plZ) rfl (mmZ) ((atZ : At _ 0 [_, _])) (rfl) (rfl) (by omega) (by omega)) ?_
      rintro _ _ ⟨ob4, cap4, tl4, rfl, own4, rfl⟩
      rw [show y.l.flatMap encP ++ [Value.int .i64 x.1, .int .u64 (x.2 : Int)] = (y.l ++ [x]).flatMap encP from by simp, show y.l.length + 1 = (y.l ++ [x]).length from by simp] at own4 ⊢
      refine WL_val rfl rfl rfl (R_assign rfl rfl) ?_
      refine WL_nil ?_
      refine WQ_code ?_
      refine WC_region ?_
      refine WL_val rfl rfl rfl (R_move rfl rfl) ?_
      refine WL_val rfl rfl rfl (R_add rfl rfl rfl (by omega)) ?_
      refine WL_val rfl rfl rfl (R_assign rfl rfl) ?_
      refine WL_nil ?_
      refine WQ_nextF (⟨y.k + 1, y.l ++ [x], ob4, cap4, tl4⟩) (⟨by dsimp only; omega, by dsimp only; rw [hnx, ← hyl], own4⟩) (by dsimp only; omega) leZ (psZ) rfl (pqZ)
    · have hnx := fltQ_next (who := who) hx
      rw [if_neg c2, List.append_nil] at hnx
      refine WC_skip ?_
      refine WQ_code ?_
      refine WC_region ?_
      refine WL_val rfl rfl rfl (R_move rfl rfl) ?_
      refine WL_val rfl rfl rfl (R_add rfl rfl rfl (by omega)) ?_
      refine WL_val rfl rfl rfl (R_assign rfl rfl) ?_
      refine WL_nil ?_
      refine WQ_nextF (⟨y.k + 1, y.l, y.ob, y.c, y.tl⟩) (⟨by dsimp only; omega, by dsimp only; rw [hnx, ← hyl], hlo⟩) (by dsimp only; omega) leZ (psZ) rfl (pqZ)
  · have hkl : y.k = r.Q.length := by omega
    refine WC_exit ?_
    refine WQ_code ?_
    refine WC_seq ?_
    refine WC_region ?_
    refine WL_val rfl rfl rfl (R_move rfl rfl) ?_
    refine WL_val rfl rfl rfl (R_fieldAddr rfl fa58_5 rfl) ?_
    refine WL_do0 rfl rfl (D_store (vs := [_]) rfl Try.sizeOf55 rfl rfl rfl rfl rfl (plZ) (by exact Nat.le_of_ble_eq_true rfl)) ?_
    rintro _ _ rfl
    refine WL_nil ?_
    refine WQ_code ?_
    refine WC_seq ?_
    refine WC_region ?_
    refine WL_val rfl rfl rfl (R_loadA (vs := [_, _, _, _, _, _, _]) rfl ag58 rfl (mmZ) rfl (atZ)) ?_
    refine WL_do0 rfl rfl (D_store (vs := [_, _, _, _, _, _, _]) rfl Try.sizeOf58 rfl rfl rfl rfl rfl (plZ) (by exact Nat.le_of_ble_eq_true rfl)) ?_
    rintro _ _ rfl
    refine WL_nil ?_
    refine WQ_code ?_
    refine WC_ret ?_
    have hyf : y.l = (r.leave who).Q := by rw [hyl, hkl, List.take_length]; rfl
    have hfl : (r.leave who).Q.length ≤ r.Q.length := List.length_filter_le _ _
    rw [hyf] at hlo ⊢
    refine WQ_ret rfl rfl (.cons (.cell (vs := [_, _, _, _, _, _, _]) rfl ag58 (mmZ) rfl (atZ)) .nil) rfl (by
        exact ⟨y.ob, y.c, y.tl, rfl, rfl, ⟨h.c, hlo, h.e, h.cl, by omega, h.el, h.op, h.ek⟩⟩) (pqZ)
theorem mtell_ok {M : MM} {r : RS} (h : MIs M r) (k who c : Int) (hE : r.E.length < 100000) : Spec Try.prog 86 [mdV M r, .int .i64 k, .int .i64 who, .int .i64 c] (mdH M r) (fun v H' => ∃ eb ec etl, v = mdV { M with eb := eb, ek := 0, ec := ec, epre := [], etl := etl } (r.tell k who c) ∧ H' = mdE { M with eb := eb, ek := 0, ec := ec, epre := [], etl := etl } (r.tell k who c) :: mdH M r ∧ MIs { M with eb := eb, ek := 0, ec := ec, epre := [], etl := etl } (r.tell k who c)) := by
  refine Spec.of (E := [(0, mdV M r), (1, .int .i64 k), (2, .int .i64 who), (3, .int .i64 c)]) Try.func86 rfl (by kernel_rfl) Try.ntmps86 rfl rfl (fun w => ?_)
  refine WC_seq ?_
  refine WC_region ?_
  refine WL_do rfl rfl rfl (D_box (cs := [_, _, _, _, _, _, _]) rfl rfl rfl) ?_
  rintro _ _ ⟨b1, rfl, rfl⟩
  refine WL_do rfl rfl rfl (D_alloc rfl zv58) ?_
  rintro _ _ ⟨b2, rfl, rfl⟩
  refine WL_nil ?_
  refine WQ_code ?_
  refine WC_seq ?_
  refine WC_region ?_
  refine WL_none 44 ?_
  refine WL_val rfl rfl rfl (R_fieldAddr rfl fa58_6 rfl) ?_
  refine WL_val rfl rfl rfl (R_load rfl sc56 rfl (mmZ) rfl) ?_
  refine WL_do rfl rfl rfl (D_appendSV rfl si56 rfl (Own.empty 3) plZ rfl h.ek h.e mmZ (encV_one _) (by have := h.el; omega) (by have := h.el; omega)) ?_
  rintro _ _ ⟨o8, c8, tl8, rfl, own8, rfl⟩
  rw [Nat.zero_add, List.nil_append] at own8 ⊢
  refine WL_val rfl rfl rfl (R_move rfl rfl) ?_
  refine WL_val rfl rfl rfl (R_move rfl rfl) ?_
  refine WL_val rfl rfl rfl (R_move rfl rfl) ?_
  refine WL_val rfl rfl rfl (R_build rfl zv44 pl44 rfl rfl) ?_
  refine WL_do rfl rfl rfl (D_buildSlice rfl si56 rfl rfl rfl) ?_
  rintro _ _ ⟨b3, rfl, rfl⟩
  refine WL_do rfl rfl rfl (D_append rfl si56 rfl (own8) (plZ) rfl (mmZ) ((atZ : At _ 0 [_, _, _])) (rfl) (rfl) (by omega) (by omega)) ?_
  rintro _ _ ⟨ob4, cap4, tl4, rfl, own4, rfl⟩
  rw [show r.E.flatMap encV ++ [Value.int .i64 k, .int .i64 who, .int .i64 c] = (r.tell k who c).E.flatMap encV from by simp [RS.tell], show r.E.length + 1 = (r.tell k who c).E.length from by simp [RS.tell]] at own4 ⊢
  refine WL_val rfl rfl rfl (R_fieldAddr rfl fa58_6 rfl) ?_
  refine WL_do0 rfl rfl (D_store (vs := [_]) rfl Try.sizeOf56 rfl rfl rfl rfl rfl (plZ) (by exact Nat.le_of_ble_eq_true rfl)) ?_
  rintro _ _ rfl
  refine WL_nil ?_
  refine WQ_code ?_
  refine WC_seq ?_
  refine WC_region ?_
  refine WL_val rfl rfl rfl (R_loadA (vs := [_, _, _, _, _, _, _]) rfl ag58 rfl (mmZ) rfl (atZ)) ?_
  refine WL_do0 rfl rfl (D_store (vs := [_, _, _, _, _, _, _]) rfl Try.sizeOf58 rfl rfl rfl rfl rfl (plZ) (by exact Nat.le_of_ble_eq_true rfl)) ?_
  rintro _ _ rfl
  refine WL_nil ?_
  refine WQ_code ?_
  refine WC_ret ?_
  refine WQ_ret rfl rfl (.cons (.cell (vs := [_, _, _, _, _, _, _]) rfl ag58 (mmZ) rfl (atZ)) .nil) rfl (by
      exact ⟨ob4, cap4, tl4, rfl, rfl, ⟨h.c, h.q, OwnS.of own4, h.cl, h.ql, by simp [RS.tell]; omega, h.op, fun _ => rfl⟩⟩) (pqZ)
end Go.Proofs.Yteofigbgdbpjgaa
end
section
set_option linter.unusedVariables false
set_option maxRecDepth 20000
namespace Go.Proofs.Yteofigbgdbpjgaa
section
variable {α : Type} {enc : α → List Value} {k : Nat}
theorem cat_pre (A R : List α) (tl : List Value) : At ((A ++ R).flatMap enc ++ tl) 0 (A.flatMap enc) := fun j v hj => by
  rw [Nat.zero_add, List.flatMap_append, List.append_assoc, List.getElem?_append_left (List.getElem?_eq_some_iff.1 hj).1]; exact hj
theorem cat_suf (hk : ∀ x, (enc x).length = k) (A B : List α) (x : α) (tl : List Value) (c : Nat) (hc : (A ++ x :: B).length ≤ c) : At ((A ++ x :: B).flatMap enc ++ tl) (if c = A.length + 1 then 0 else 0 + (A.length + 1) * k) (B.flatMap enc) := by
  rw [List.length_append, List.length_cons] at hc
  split
  · have : B = [] := List.eq_nil_of_length_eq_zero (by omega)
    subst this
    intro j v hj; simp at hj
  · intro j v hj
    rw [show A ++ x :: B = (A ++ [x]) ++ B by simp, List.flatMap_append, List.append_assoc, Nat.zero_add]
    have hl : ((A ++ [x]).flatMap enc).length = (A.length + 1) * k := by rw [fm_length hk, List.length_append]; rfl
    rw [← hl, List.getElem?_append_right (by omega), Nat.add_sub_cancel_left, List.getElem?_append_left (List.getElem?_eq_some_iff.1 hj).1]
    exact hj
end
section
variable {c x : Cr} {p : List Cr × Bool}
theorem ws_tt (hd : p.2 = false ∧ c.num ≤ x.num) (hn : x.num ≠ c.num) : withStep c p x = (p.1 ++ [c] ++ [x], true) := by simp only [withStep, if_pos hd, if_pos hn]
theorem ws_tf (hd : p.2 = false ∧ c.num ≤ x.num) (hn : ¬ x.num ≠ c.num) : withStep c p x = (p.1 ++ [c], true) := by simp only [withStep, if_pos hd, if_neg hn]
theorem ws_ft (hd : ¬ (p.2 = false ∧ c.num ≤ x.num)) (hn : x.num ≠ c.num) : withStep c p x = (p.1 ++ [x], p.2) := by simp only [withStep, if_neg hd, if_pos hn]
theorem ws_ff (hd : ¬ (p.2 = false ∧ c.num ≤ x.num)) (hn : ¬ x.num ≠ c.num) : withStep c p x = p := by simp only [withStep, if_neg hd, if_neg hn]
end
abbrev crV (c : Cr) : Value := .agg (encR c).toArray
theorem free_end {r : RS} {k : Nat} (hz : ∀ j x, j < k → r.R[j]? = some x → x.num = ((j : Nat) : Int)) (he : r.R.length ≤ k ∨ ∃ x, r.R[k]? = some x ∧ x.num ≠ (k : Int)) (hk : k ≤ r.R.length) : r.free = k := by
  have := freeR_at (R := r.R) (k := 0) (i := k) (fun j x hj hx => by rw [hz j x hj hx, Nat.zero_add]) (by rw [Nat.zero_add]; exact he) hk
  rw [Nat.zero_add] at this; exact this
end Go.Proofs.Yteofigbgdbpjgaa
end
section
set_option linter.unusedVariables false
set_option maxRecDepth 20000
set_option maxHeartbeats 2000000
namespace Go.Proofs.Yteofigbgdbpjgaa
theorem mwith_ok {M : MM} {r : RS} (h : MIs M r) (c : Cr) (hc : (withR r.R c).length ≤ 64) : Spec Try.prog 81 [mdV M r, crV c] (mdH M r) (fun v H' => ∃ cb cc ctl, v = mdV { M with cb := cb, cc := cc, ctl := ctl } (r.with_ c) ∧ H' = mdC { M with cb := cb, cc := cc, ctl := ctl } (r.with_ c) :: mdH M r ∧ MIs { M with cb := cb, cc := cc, ctl := ctl } (r.with_ c)) := by
  have hcl := h.cl
  refine Spec.of (E := [(0, mdV M r), (1, crV c)]) Try.func81 rfl (by kernel_rfl) Try.ntmps81 rfl rfl (fun w => ?_)
  refine WC_seq ?_
  refine WC_region ?_
  refine WL_do rfl rfl rfl (D_box (cs := [_, _, _, _, _, _, _]) rfl rfl rfl) ?_
  rintro _ _ ⟨b1, rfl, rfl⟩
  refine WL_do rfl rfl rfl (D_box (cs := [_, _, _, _]) rfl rfl rfl) ?_
  rintro _ _ ⟨b2, rfl, rfl⟩
  refine WL_do rfl rfl rfl (D_alloc rfl zv58) ?_
  rintro _ _ ⟨b3, rfl, rfl⟩
  refine WL_nil ?_
  refine WQ_code ?_
  refine WC_seq ?_
  refine WC_region ?_
  refine WL_val rfl rfl rfl (R_assign rfl rfl) ?_
  refine WL_nil ?_
  refine WQ_code ?_
  refine WC_seq ?_
  refine WC_region ?_
  refine WL_val rfl rfl rfl (R_assign rfl rfl) ?_
  refine WL_nil ?_
  refine WQ_code ?_
  refine WC_seq ?_
  refine WC_seq ?_
  refine WC_region ?_
  refine WL_val rfl rfl rfl (R_assign rfl rfl) ?_
  refine WL_nil ?_
  refine WQ_code ?_
  refine WC_block ?_
  refine WC_none 139 ?_
  refine WC_loopF (G := WiW) [5, 6, 7, 8, 9, 10, 11, 12, 13, 14, 15, 16, 17, 18, 19, 20, 21, 22, 23, 24, 25, 26, 27, 28, 29, 30, 31, 32, 33, 34, 35, 36, 37, 38, 39, 40, 41, 42, 43, 44, 45, 46, 47, 48] (fun y => y.k ≤ r.R.length ∧ y.p = withF c (r.R.take y.k) ∧ Own y.ob y.p.1.length y.c 4 (y.p.1.flatMap encR) y.tl) (fun y => [(7, .int .i64 (y.k : Int)), (5, slV y.ob y.p.1.length y.c), (6, .bool y.p.2)]) (fun y => [⟨y.ob, cl (y.p.1.flatMap encR ++ y.tl) 139⟩]) (fun y => r.R.length - y.k) (⟨0, ([], false), none, 0, []⟩) (⟨Nat.zero_le _, rfl, Own.empty 4⟩) leZ (pqZ) ?_
  rintro y ⟨hk, hyp, hlo⟩
  refine WC_seq ?_
  refine WC_seq ?_
  refine WC_region ?_
  refine WL_val rfl rfl rfl (R_move rfl rfl) ?_
  refine WL_val rfl rfl rfl (R_fieldAddr rfl fa58_4 rfl) ?_
  refine WL_val rfl rfl rfl (R_load rfl sc54 rfl (mmZ) rfl) ?_
  refine WL_val rfl rfl rfl (R_len rfl Try.underlying54 rfl) ?_
  refine WL_val rfl rfl rfl (R_lss rfl rfl rfl) ?_
  refine WL_nil ?_
  refine WQ_code ?_
  refine WC_dec rfl (fun c1 => ?_) (fun c1 => ?_)
  · refine WC_skip ?_
    refine WQ_code ?_
    refine WC_seq ?_
    refine WC_block ?_
    refine WC_seq ?_
    refine WC_seq ?_
    refine WC_draw _ [(0, true), (1, true), (2, true), (3, true), (4, true), (5, true), (6, true), (7, true), (8, true), (9, true), (10, true), (11, true), (12, true)] followsMixed rfl rfl (by kernel_rfl) .all ?_
    obtain ⟨x, hx⟩ := getE (T := r.R) (i := y.k) (by omega)
    obtain ⟨wc, hwc⟩ := h.c.some_of (by omega)
    have hnx := withF_next (c := c) hx
    rw [← hyp] at hnx
    have hll : y.p.1.length ≤ 128 := by rw [hyp]; have := withF_len c (r.R.take y.k); rw [List.length_take] at this; omega
    have hl2 : (y.p.1 ++ [c]).length = y.p.1.length + 1 := by simp
    refine WM_val rfl rfl rfl rfl (R_move rfl rfl) ?_
    refine WM_val rfl rfl rfl rfl (R_not rfl rfl) ?_
    refine WM_val rfl rfl rfl rfl (R_move rfl rfl) ?_
    refine WM_split (s := 17) rfl (fun c2 => ?_) (fun c2 => ?_)
    · have hg : y.p.2 = false := by simpa using c2
      refine WM_val rfl rfl rfl rfl (R_fieldAddr rfl fa58_4 rfl) ?_
      refine WM_val rfl rfl rfl rfl (R_load rfl sc54 rfl (mmZ) rfl) ?_
      refine WM_val rfl rfl rfl rfl (R_move rfl rfl) ?_
      refine WM_val rfl rfl rfl rfl (R_idxO hwc rfl Try.underlying54 Try.sizeOf139 rfl rfl (by omega)) ?_
      refine WM_val rfl rfl rfl rfl (R_fieldAddr rfl fa139_0 rfl) ?_
      refine WM_val rfl rfl rfl rfl (R_loadO (v := .int .i64 x.num) hwc rfl sc3 rfl (mmZ) (fm_get0 encR4 hx (j := 0) (by omega))) ?_
      refine WM_val rfl rfl rfl rfl (R_fieldAddr rfl fa139_0 rfl) ?_
      refine WM_val rfl rfl rfl rfl (R_load rfl sc3 rfl (mmZ) rfl) ?_
      refine WM_val rfl rfl rfl rfl (R_geq rfl rfl rfl) ?_
      refine WM_val rfl rfl rfl rfl (R_pickT rfl rfl rfl) ?_
      refine WM_nil ?_
      refine WQ_code ?_
      refine WC_dec rfl (fun c3 => ?_) (fun c3 => ?_)
      · have hd : y.p.2 = false ∧ c.num ≤ x.num := ⟨hg, c3⟩
        refine WC_seq ?_
        refine WC_region ?_
        refine WL_val rfl rfl rfl (R_move rfl rfl) ?_
        refine WL_val rfl rfl rfl (R_loadA (vs := [_, _, _, _]) rfl ag139 rfl (mmZ) rfl (atZ)) ?_
        refine WL_do rfl rfl rfl (D_buildSlice rfl si54 rfl rfl rfl) ?_
        rintro _ _ ⟨b4, rfl, rfl⟩
        refine WL_do rfl rfl rfl (D_append rfl si54 rfl (hlo) (plZ) rfl (mmZ) ((atZ : At _ 0 [_, _, _, _])) (rfl) (rfl) (by omega) (by omega)) ?_
        rintro _ _ ⟨ob5, cap5, tl5, rfl, own5, rfl⟩
        rw [show y.p.1.flatMap encR ++ [Value.int .i64 c.num, .int .i64 c.st, .int .i64 c.who, .int .u64 (c.since : Int)] = (y.p.1 ++ [c]).flatMap encR from by simp, show y.p.1.length + 1 = (y.p.1 ++ [c]).length from by simp] at own5 ⊢
        refine WL_val rfl rfl rfl (R_assign rfl rfl) ?_
        refine WL_nil ?_
        refine WQ_code ?_
        refine WC_region ?_
        refine WL_val rfl rfl rfl (R_assign rfl rfl) ?_
        refine WL_nil ?_
        refine WQ_code ?_
        refine WC_seq ?_
        refine WC_draw _ [(0, true), (1, true), (2, true), (3, true), (4, true), (5, true), (6, true), (7, true), (8, true)] followsMixed rfl rfl (by kernel_rfl) .all ?_
        refine WM_val rfl rfl rfl rfl (R_fieldAddr rfl fa58_4 rfl) ?_
        refine WM_val rfl rfl rfl rfl (R_load rfl sc54 rfl (mmZ) rfl) ?_
        refine WM_val rfl rfl rfl rfl (R_move rfl rfl) ?_
        refine WM_val rfl rfl rfl rfl (R_idxO hwc rfl Try.underlying54 Try.sizeOf139 rfl rfl (by omega)) ?_
        refine WM_val rfl rfl rfl rfl (R_fieldAddr rfl fa139_0 rfl) ?_
        refine WM_val rfl rfl rfl rfl (R_loadO (v := .int .i64 x.num) hwc rfl sc3 rfl (mmZ) (fm_get0 encR4 hx (j := 0) (by omega))) ?_
        refine WM_val rfl rfl rfl rfl (R_fieldAddr rfl fa139_0 rfl) ?_
        refine WM_val rfl rfl rfl rfl (R_load rfl sc3 rfl (mmZ) rfl) ?_
        refine WM_val rfl rfl rfl rfl (R_neq rfl rfl rfl) ?_
        refine WM_nil ?_
        refine WQ_code ?_
        refine WC_dec rfl (fun c4 => ?_) (fun c4 => ?_)
        · rw [ws_tt hd c4] at hnx
          refine WC_region ?_
          refine WL_val rfl rfl rfl (R_move rfl rfl) ?_
          refine WL_val rfl rfl rfl (R_fieldAddr rfl fa58_4 rfl) ?_
          refine WL_val rfl rfl rfl (R_load rfl sc54 rfl (mmZ) rfl) ?_
          refine WL_val rfl rfl rfl (R_move rfl rfl) ?_
          refine WL_val rfl rfl rfl (R_idxO hwc rfl Try.underlying54 Try.sizeOf139 rfl rfl (by omega)) ?_
          refine WL_val rfl rfl rfl (R_loadAO (vs := encR x) hwc rfl ag139 rfl (mmZ) rfl (fm_at0 encR4 hx (j := 0) (vs := encR x) (fun j v hj => by rw [Nat.zero_add]; exact hj) (Nat.le_refl _))) ?_
          refine WL_do rfl rfl rfl (D_buildSlice rfl si54 rfl rfl rfl) ?_
          rintro _ _ ⟨b6, rfl, rfl⟩
          refine WL_do rfl rfl rfl (D_append rfl si54 rfl (own5) (plZ) rfl (mmZ) ((atZ : At _ 0 [_, _, _, _])) (rfl) (rfl) (by omega) (by omega)) ?_
          rintro _ _ ⟨ob7, cap7, tl7, rfl, own7, rfl⟩
          rw [show ((y.p.1 ++ [c])).flatMap encR ++ [Value.int .i64 x.num, .int .i64 x.st, .int .i64 x.who, .int .u64 (x.since : Int)] = ((y.p.1 ++ [c]) ++ [x]).flatMap encR from by simp, show ((y.p.1 ++ [c])).length + 1 = ((y.p.1 ++ [c]) ++ [x]).length from by simp] at own7 ⊢
          refine WL_val rfl rfl rfl (R_assign rfl rfl) ?_
          refine WL_nil ?_
          refine WQ_code ?_
          refine WC_region ?_
          refine WL_val rfl rfl rfl (R_move rfl rfl) ?_
          refine WL_val rfl rfl rfl (R_add rfl rfl rfl (by omega)) ?_
          refine WL_val rfl rfl rfl (R_assign rfl rfl) ?_
          refine WL_nil ?_
          refine WQ_nextF (⟨y.k + 1, (y.p.1 ++ [c] ++ [x], true), ob7, cap7, tl7⟩) (⟨by dsimp only; omega, by dsimp only; rw [hnx], own7⟩) (by dsimp only; omega) leZ (psZ) rfl (pqZ)
        · rw [ws_tf hd c4] at hnx
          refine WC_skip ?_
          refine WQ_code ?_
          refine WC_region ?_
          refine WL_val rfl rfl rfl (R_move rfl rfl) ?_
          refine WL_val rfl rfl rfl (R_add rfl rfl rfl (by omega)) ?_
          refine WL_val rfl rfl rfl (R_assign rfl rfl) ?_
          refine WL_nil ?_
          refine WQ_nextF (⟨y.k + 1, (y.p.1 ++ [c], true), ob5, cap5, tl5⟩) (⟨by dsimp only; omega, by dsimp only; rw [hnx], own5⟩) (by dsimp only; omega) leZ (psZ) rfl (pqZ)
      · have hd : ¬ (y.p.2 = false ∧ c.num ≤ x.num) := fun e => c3 e.2
        refine WC_skip ?_
        refine WQ_code ?_
        refine WC_seq ?_
        refine WC_draw _ [(0, true), (1, true), (2, true), (3, true), (4, true), (5, true), (6, true), (7, true), (8, true)] followsMixed rfl rfl (by kernel_rfl) .all ?_
        refine WM_val rfl rfl rfl rfl (R_fieldAddr rfl fa58_4 rfl) ?_
        refine WM_val rfl rfl rfl rfl (R_load rfl sc54 rfl (mmZ) rfl) ?_
        refine WM_val rfl rfl rfl rfl (R_move rfl rfl) ?_
        refine WM_val rfl rfl rfl rfl (R_idxO hwc rfl Try.underlying54 Try.sizeOf139 rfl rfl (by omega)) ?_
        refine WM_val rfl rfl rfl rfl (R_fieldAddr rfl fa139_0 rfl) ?_
        refine WM_val rfl rfl rfl rfl (R_loadO (v := .int .i64 x.num) hwc rfl sc3 rfl (mmZ) (fm_get0 encR4 hx (j := 0) (by omega))) ?_
        refine WM_val rfl rfl rfl rfl (R_fieldAddr rfl fa139_0 rfl) ?_
        refine WM_val rfl rfl rfl rfl (R_load rfl sc3 rfl (mmZ) rfl) ?_
        refine WM_val rfl rfl rfl rfl (R_neq rfl rfl rfl) ?_
        refine WM_nil ?_
        refine WQ_code ?_
        refine WC_dec rfl (fun c5 => ?_) (fun c5 => ?_)
        · rw [ws_ft hd c5] at hnx
          refine WC_region ?_
          refine WL_val rfl rfl rfl (R_move rfl rfl) ?_
          refine WL_val rfl rfl rfl (R_fieldAddr rfl fa58_4 rfl) ?_
          refine WL_val rfl rfl rfl (R_load rfl sc54 rfl (mmZ) rfl) ?_
          refine WL_val rfl rfl rfl (R_move rfl rfl) ?_
          refine WL_val rfl rfl rfl (R_idxO hwc rfl Try.underlying54 Try.sizeOf139 rfl rfl (by omega)) ?_
          refine WL_val rfl rfl rfl (R_loadAO (vs := encR x) hwc rfl ag139 rfl (mmZ) rfl (fm_at0 encR4 hx (j := 0) (vs := encR x) (fun j v hj => by rw [Nat.zero_add]; exact hj) (Nat.le_refl _))) ?_
          refine WL_do rfl rfl rfl (D_buildSlice rfl si54 rfl rfl rfl) ?_
          rintro _ _ ⟨b8, rfl, rfl⟩
          refine WL_do rfl rfl rfl (D_append rfl si54 rfl (hlo) (plZ) rfl (mmZ) ((atZ : At _ 0 [_, _, _, _])) (rfl) (rfl) (by omega) (by omega)) ?_
          rintro _ _ ⟨ob9, cap9, tl9, rfl, own9, rfl⟩
          rw [show (y.p.1).flatMap encR ++ [Value.int .i64 x.num, .int .i64 x.st, .int .i64 x.who, .int .u64 (x.since : Int)] = (y.p.1 ++ [x]).flatMap encR from by simp, show (y.p.1).length + 1 = (y.p.1 ++ [x]).length from by simp] at own9 ⊢
          refine WL_val rfl rfl rfl (R_assign rfl rfl) ?_
          refine WL_nil ?_
          refine WQ_code ?_
          refine WC_region ?_
          refine WL_val rfl rfl rfl (R_move rfl rfl) ?_
          refine WL_val rfl rfl rfl (R_add rfl rfl rfl (by omega)) ?_
          refine WL_val rfl rfl rfl (R_assign rfl rfl) ?_
          refine WL_nil ?_
          refine WQ_nextF (⟨y.k + 1, (y.p.1 ++ [x], y.p.2), ob9, cap9, tl9⟩) (⟨by dsimp only; omega, by dsimp only; rw [hnx], own9⟩) (by dsimp only; omega) leZ (psZ) rfl (pqZ)
        · rw [ws_ff hd c5] at hnx
          refine WC_skip ?_
          refine WQ_code ?_
          refine WC_region ?_
          refine WL_val rfl rfl rfl (R_move rfl rfl) ?_
          refine WL_val rfl rfl rfl (R_add rfl rfl rfl (by omega)) ?_
          refine WL_val rfl rfl rfl (R_assign rfl rfl) ?_
          refine WL_nil ?_
          refine WQ_nextF (⟨y.k + 1, y.p, y.ob, y.c, y.tl⟩) (⟨by dsimp only; omega, by dsimp only; rw [hnx], hlo⟩) (by dsimp only; omega) leZ (psZ) rfl (pqZ)
    · have hg : y.p.2 = true := by simpa using c2
      have hd : ¬ (y.p.2 = false ∧ c.num ≤ x.num) := fun e => by rw [hg] at e; exact absurd e.1 (by decide)
      refine WM_skip rfl rfl rfl rfl ?_
      refine WM_skip rfl rfl rfl rfl ?_
      refine WM_skip rfl rfl rfl rfl ?_
      refine WM_skip rfl rfl rfl rfl ?_
      refine WM_skip rfl rfl rfl rfl ?_
      refine WM_skip rfl rfl rfl rfl ?_
      refine WM_skip rfl rfl rfl rfl ?_
      refine WM_skip rfl rfl rfl rfl ?_
      refine WM_skip rfl rfl rfl rfl ?_
      refine WM_val rfl rfl rfl rfl (R_pickF rfl rfl rfl) ?_
      refine WM_nil ?_
      refine WQ_code ?_
      refine WC_F rfl ?_
      refine WC_skip ?_
      refine WQ_code ?_
      refine WC_seq ?_
      refine WC_draw _ [(0, true), (1, true), (2, true), (3, true), (4, true), (5, true), (6, true), (7, true), (8, true)] followsMixed rfl rfl (by kernel_rfl) .all ?_
      refine WM_val rfl rfl rfl rfl (R_fieldAddr rfl fa58_4 rfl) ?_
      refine WM_val rfl rfl rfl rfl (R_load rfl sc54 rfl (mmZ) rfl) ?_
      refine WM_val rfl rfl rfl rfl (R_move rfl rfl) ?_
      refine WM_val rfl rfl rfl rfl (R_idxO hwc rfl Try.underlying54 Try.sizeOf139 rfl rfl (by omega)) ?_
      refine WM_val rfl rfl rfl rfl (R_fieldAddr rfl fa139_0 rfl) ?_
      refine WM_val rfl rfl rfl rfl (R_loadO (v := .int .i64 x.num) hwc rfl sc3 rfl (mmZ) (fm_get0 encR4 hx (j := 0) (by omega))) ?_
      refine WM_val rfl rfl rfl rfl (R_fieldAddr rfl fa139_0 rfl) ?_
      refine WM_val rfl rfl rfl rfl (R_load rfl sc3 rfl (mmZ) rfl) ?_
      refine WM_val rfl rfl rfl rfl (R_neq rfl rfl rfl) ?_
      refine WM_nil ?_
      refine WQ_code ?_
      refine WC_dec rfl (fun c6 => ?_) (fun c6 => ?_)
      · rw [ws_ft hd c6] at hnx
        refine WC_region ?_
        refine WL_val rfl rfl rfl (R_move rfl rfl) ?_
        refine WL_val rfl rfl rfl (R_fieldAddr rfl fa58_4 rfl) ?_
        refine WL_val rfl rfl rfl (R_load rfl sc54 rfl (mmZ) rfl) ?_
        refine WL_val rfl rfl rfl (R_move rfl rfl) ?_
        refine WL_val rfl rfl rfl (R_idxO hwc rfl Try.underlying54 Try.sizeOf139 rfl rfl (by omega)) ?_
        refine WL_val rfl rfl rfl (R_loadAO (vs := encR x) hwc rfl ag139 rfl (mmZ) rfl (fm_at0 encR4 hx (j := 0) (vs := encR x) (fun j v hj => by rw [Nat.zero_add]; exact hj) (Nat.le_refl _))) ?_
        refine WL_do rfl rfl rfl (D_buildSlice rfl si54 rfl rfl rfl) ?_
        rintro _ _ ⟨b10, rfl, rfl⟩
        refine WL_do rfl rfl rfl (D_append rfl si54 rfl (hlo) (plZ) rfl (mmZ) ((atZ : At _ 0 [_, _, _, _])) (rfl) (rfl) (by omega) (by omega)) ?_
        rintro _ _ ⟨ob11, cap11, tl11, rfl, own11, rfl⟩
        rw [show (y.p.1).flatMap encR ++ [Value.int .i64 x.num, .int .i64 x.st, .int .i64 x.who, .int .u64 (x.since : Int)] = (y.p.1 ++ [x]).flatMap encR from by simp, show (y.p.1).length + 1 = (y.p.1 ++ [x]).length from by simp] at own11 ⊢
        refine WL_val rfl rfl rfl (R_assign rfl rfl) ?_
        refine WL_nil ?_
        refine WQ_code ?_
        refine WC_region ?_
        refine WL_val rfl rfl rfl (R_move rfl rfl) ?_
        refine WL_val rfl rfl rfl (R_add rfl rfl rfl (by omega)) ?_
        refine WL_val rfl rfl rfl (R_assign rfl rfl) ?_
        refine WL_nil ?_
        refine WQ_nextF (⟨y.k + 1, (y.p.1 ++ [x], y.p.2), ob11, cap11, tl11⟩) (⟨by dsimp only; omega, by dsimp only; rw [hnx], own11⟩) (by dsimp only; omega) leZ (psZ) rfl (pqZ)
      · rw [ws_ff hd c6] at hnx
        refine WC_skip ?_
        refine WQ_code ?_
        refine WC_region ?_
        refine WL_val rfl rfl rfl (R_move rfl rfl) ?_
        refine WL_val rfl rfl rfl (R_add rfl rfl rfl (by omega)) ?_
        refine WL_val rfl rfl rfl (R_assign rfl rfl) ?_
        refine WL_nil ?_
        refine WQ_nextF (⟨y.k + 1, y.p, y.ob, y.c, y.tl⟩) (⟨by dsimp only; omega, by dsimp only; rw [hnx], hlo⟩) (by dsimp only; omega) leZ (psZ) rfl (pqZ)
  · have hkl : y.k = r.R.length := by omega
    rw [hkl, List.take_length] at hyp
    have hll : y.p.1.length ≤ 128 := by rw [hyp]; have := withF_len c r.R; omega
    refine WC_exit ?_
    refine WQ_code ?_
    refine WC_seq ?_
    refine WC_seq ?_
    refine WC_region ?_
    refine WL_val rfl rfl rfl (R_move rfl rfl) ?_
    refine WL_val rfl rfl rfl (R_not rfl rfl) ?_
    refine WL_nil ?_
    refine WQ_code ?_
    refine WC_if rfl (fun c7 => ?_) (fun c7 => ?_)
    · have hyf : y.p.1 ++ [c] = (r.with_ c).R := by show _ = withR r.R c; unfold withR; rw [← hyp, if_neg (by simpa using c7)]
      refine WC_region ?_
      refine WL_val rfl rfl rfl (R_move rfl rfl) ?_
      refine WL_val rfl rfl rfl (R_loadA (vs := [_, _, _, _]) rfl ag139 rfl (mmZ) rfl (atZ)) ?_
      refine WL_do rfl rfl rfl (D_buildSlice rfl si54 rfl rfl rfl) ?_
      rintro _ _ ⟨b12, rfl, rfl⟩
      refine WL_do rfl rfl rfl (D_append rfl si54 rfl (hlo) (plZ) rfl (mmZ) ((atZ : At _ 0 [_, _, _, _])) (rfl) (rfl) (by omega) (by omega)) ?_
      rintro _ _ ⟨ob13, cap13, tl13, rfl, own13, rfl⟩
      rw [show y.p.1.flatMap encR ++ [Value.int .i64 c.num, .int .i64 c.st, .int .i64 c.who, .int .u64 (c.since : Int)] = (y.p.1 ++ [c]).flatMap encR from by simp, show y.p.1.length + 1 = (y.p.1 ++ [c]).length from by simp] at own13 ⊢
      rw [hyf] at own13 ⊢
      refine WL_val rfl rfl rfl (R_assign rfl rfl) ?_
      refine WL_nil ?_
      refine WQ_code ?_
      refine WC_seq ?_
      refine WC_region ?_
      refine WL_val rfl rfl rfl (R_move rfl rfl) ?_
      refine WL_val rfl rfl rfl (R_fieldAddr rfl fa58_4 rfl) ?_
      refine WL_do0 rfl rfl (D_store (vs := [_]) rfl Try.sizeOf54 rfl rfl rfl rfl rfl (plZ) (by exact Nat.le_of_ble_eq_true rfl)) ?_
      rintro _ _ rfl
      refine WL_nil ?_
      refine WQ_code ?_
      refine WC_seq ?_
      refine WC_region ?_
      refine WL_val rfl rfl rfl (R_loadA (vs := [_, _, _, _, _, _, _]) rfl ag58 rfl (mmZ) rfl (atZ)) ?_
      refine WL_do0 rfl rfl (D_store (vs := [_, _, _, _, _, _, _]) rfl Try.sizeOf58 rfl rfl rfl rfl rfl (plZ) (by exact Nat.le_of_ble_eq_true rfl)) ?_
      rintro _ _ rfl
      refine WL_nil ?_
      refine WQ_code ?_
      refine WC_ret ?_
      refine WQ_ret rfl rfl (.cons (.cell (vs := [_, _, _, _, _, _, _]) rfl ag58 (mmZ) rfl (atZ)) .nil) rfl (by
          exact ⟨ob13, cap13, tl13, rfl, rfl, ⟨own13, h.q, h.e, hc, h.ql, h.el, h.op, h.ek⟩⟩) (pqZ)
    · have hyf : y.p.1 = (r.with_ c).R := by show _ = withR r.R c; unfold withR; rw [← hyp, if_pos (by simpa using c7)]
      rw [hyf] at hlo ⊢
      refine WC_skip ?_
      refine WQ_code ?_
      refine WC_seq ?_
      refine WC_region ?_
      refine WL_val rfl rfl rfl (R_move rfl rfl) ?_
      refine WL_val rfl rfl rfl (R_fieldAddr rfl fa58_4 rfl) ?_
      refine WL_do0 rfl rfl (D_store (vs := [_]) rfl Try.sizeOf54 rfl rfl rfl rfl rfl (plZ) (by exact Nat.le_of_ble_eq_true rfl)) ?_
      rintro _ _ rfl
      refine WL_nil ?_
      refine WQ_code ?_
      refine WC_seq ?_
      refine WC_region ?_
      refine WL_val rfl rfl rfl (R_loadA (vs := [_, _, _, _, _, _, _]) rfl ag58 rfl (mmZ) rfl (atZ)) ?_
      refine WL_do0 rfl rfl (D_store (vs := [_, _, _, _, _, _, _]) rfl Try.sizeOf58 rfl rfl rfl rfl rfl (plZ) (by exact Nat.le_of_ble_eq_true rfl)) ?_
      rintro _ _ rfl
      refine WL_nil ?_
      refine WQ_code ?_
      refine WC_ret ?_
      refine WQ_ret rfl rfl (.cons (.cell (vs := [_, _, _, _, _, _, _]) rfl ag58 (mmZ) rfl (atZ)) .nil) rfl (by
          exact ⟨y.ob, y.c, y.tl, rfl, rfl, ⟨hlo, h.q, h.e, hc, h.ql, h.el, h.op, h.ek⟩⟩) (pqZ)
theorem mwithoutW {M : MM} {r : RS} (h : MIs M r) (i : Nat) (hi : i < r.R.length) (wc : Nat) (hwc : M.cb = some wc) : Spec Try.prog 85 [.agg #[.int .i64 (r.op : Int), .int .i64 (r.most : Int), .int .u64 (r.keep : Int), .int .u64 (r.now : Int), slV (some wc) r.R.length M.cc, slV M.qb r.Q.length M.qc, sVal M.eb M.ek r.E.length M.ec], .int .i64 (i : Int)] [⟨some wc, cl (r.R.flatMap encR ++ M.ctl) 139⟩, mdQ M r, mdE M r] (fun v H' => ∃ cb cc ctl, v = mdV { M with cb := cb, cc := cc, ctl := ctl } (r.without i) ∧ H' = mdC { M with cb := cb, cc := cc, ctl := ctl } (r.without i) :: [⟨some wc, cl (r.R.flatMap encR ++ M.ctl) 139⟩, mdQ M r, mdE M r] ∧ MIs { M with cb := cb, cc := cc, ctl := ctl } (r.without i)) := by
  have hcl := h.cl
  obtain ⟨x9, hx9⟩ := getE (T := r.R) (i := i) hi
  have hR : r.R = r.R.take i ++ x9 :: r.R.drop (i + 1) := by
    obtain ⟨g1, g2⟩ := List.getElem?_eq_some_iff.1 hx9
    rw [← g2, ← List.drop_eq_getElem_cons g1, List.take_append_drop]
  have hlA : (r.R.take i).length = i := by rw [List.length_take]; omega
  have hlB : (r.R.drop (i + 1)).length = r.R.length - (i + 1) := List.length_drop
  have hle := h.c.le
  have hccb := h.c.big
  have hatp : At (r.R.flatMap encR ++ M.ctl) 0 ((r.R.take i).flatMap encR) := by
    have := cat_pre (enc := encR) (r.R.take i) (x9 :: r.R.drop (i + 1)) M.ctl
    rw [← hR] at this; exact this
  have hats : At (r.R.flatMap encR ++ M.ctl) (if M.cc = i + 1 then 0 else 0 + (i + 1) * 4) ((r.R.drop (i + 1)).flatMap encR) := by
    have := cat_suf (enc := encR) encR4 (r.R.take i) (r.R.drop (i + 1)) x9 M.ctl M.cc (by rw [← hR]; exact hle)
    rw [← hR, hlA] at this; exact this
  have hfB : ((r.R.drop (i + 1)).flatMap encR).length = (r.R.length - (i + 1)) * 4 := by rw [fm_length encR4, hlB]
  have hfA : ((r.R.take i).flatMap encR).length = i * 4 := by rw [fm_length encR4, hlA]
  refine Spec.of (E := [(0, .agg #[.int .i64 (r.op : Int), .int .i64 (r.most : Int), .int .u64 (r.keep : Int), .int .u64 (r.now : Int), slV (some wc) r.R.length M.cc, slV M.qb r.Q.length M.qc, sVal M.eb M.ek r.E.length M.ec]), (1, .int .i64 (i : Int))]) Try.func85 rfl (by kernel_rfl) Try.ntmps85 rfl rfl (fun w => ?_)
  refine WC_seq ?_
  refine WC_region ?_
  refine WL_do rfl rfl rfl (D_box (cs := [_, _, _, _, _, _, _]) rfl rfl rfl) ?_
  rintro _ _ ⟨b1, rfl, rfl⟩
  refine WL_do rfl rfl rfl (D_alloc rfl zv58) ?_
  rintro _ _ ⟨b2, rfl, rfl⟩
  refine WL_none 139 ?_
  refine WL_nil ?_
  refine WQ_code ?_
  refine WC_seq ?_
  refine WC_drawY (⟨some b1, _⟩ :: [⟨none, cl [] 139⟩]) [(b1, 4, slV (some wc) r.R.length M.cc)] [12] [(0, false), (1, true), (2, false), (3, false), (5, false), (6, true)] [(7, true), (8, true), (9, true), (4, false), (10, false), (11, true), (12, false)] followsMixed rfl rfl (by kernel_rfl) (pqZ) (.cons (mmZ) rfl .nil) ?_
  refine WYE_val rfl rfl rfl rfl (R_fieldAddr rfl fa58_4 rfl) ?_
  refine WYE_early rfl rfl rfl rfl rfl sc54 rfl (by repeat (first | exact List.Mem.head _ | refine List.Mem.tail _ ?_)) ?_
  refine WYE_val rfl rfl rfl rfl (R_move rfl rfl) ?_
  refine WYE_val rfl rfl rfl rfl (R_sliceTo (m := i) rfl Try.underlying54 Try.sizeOf139 rfl rfl (by omega)) ?_
  refine WYE_val rfl rfl rfl rfl (R_fieldAddr rfl fa58_4 rfl) ?_
  refine WYE_early rfl rfl rfl rfl rfl sc54 rfl (by repeat (first | exact List.Mem.head _ | refine List.Mem.tail _ ?_)) ?_
  refine WYE_rest ?_
  refine WY_val rfl rfl rfl rfl (R_move rfl rfl) ?_
  refine WY_val rfl rfl rfl rfl (R_addR (r := ((i + 1 : Nat) : Int)) rfl rfl rfl (by rw [wrap64_in (by omega) (by omega)]; omega)) ?_
  refine WY_val rfl rfl rfl rfl (R_sliceFromK (m := i + 1) rfl Try.underlying54 Try.sizeOf139 rfl rfl (by omega)) ?_
  refine WY_do rfl rfl rfl rfl (D_append rfl si54 rfl (Own.empty 4) plZ rfl mmZ hatp hfA (encR_one _) (by omega) (by omega)) ?_
  rintro _ _ ⟨co3, cc3, ct3, rfl, oc3, rfl⟩
  refine ⟨⟨_, pqZ⟩, .inr (.cons (mmZ) rfl .nil), ?_⟩
  refine WY_do rfl rfl rfl rfl (D_append rfl si54 rfl oc3 plZ rfl mmZ hats hfB (encR_one _) (by omega) (by omega)) ?_
  rintro _ _ ⟨co4, cc4, ct4, rfl, oc4, rfl⟩
  refine ⟨⟨_, pqZ⟩, .inr (.cons (mmZ) rfl .nil), ?_⟩
  rw [show [] ++ (r.R.take i).flatMap encR ++ (r.R.drop (i + 1)).flatMap encR = (r.without i).R.flatMap encR from by simp [RS.without], show 0 + i + (r.R.length - (i + 1)) = (r.without i).R.length from by simp only [RS.without, List.length_append]; omega] at oc4 ⊢
  refine WY_val rfl rfl rfl rfl (R_fieldAddr rfl fa58_4 rfl) ?_
  refine WY_do0 rfl rfl rfl (D_store (vs := [_]) rfl Try.sizeOf54 rfl rfl rfl rfl rfl (plZ) (by exact Nat.le_of_ble_eq_true rfl)) ?_
  rintro _ _ rfl
  refine ⟨⟨_, pqZ⟩, .inl rfl, ?_⟩
  refine WY_nil ?_
  refine WQ_code ?_
  refine WC_seq ?_
  refine WC_region ?_
  refine WL_val rfl rfl rfl (R_loadA (vs := [_, _, _, _, _, _, _]) rfl ag58 rfl (mmZ) rfl (atZ)) ?_
  refine WL_do0 rfl rfl (D_store (vs := [_, _, _, _, _, _, _]) rfl Try.sizeOf58 rfl rfl rfl rfl rfl (plZ) (by exact Nat.le_of_ble_eq_true rfl)) ?_
  rintro _ _ rfl
  refine WL_nil ?_
  refine WQ_code ?_
  refine WC_ret ?_
  refine WQ_ret rfl rfl (.cons (.cell (vs := [_, _, _, _, _, _, _]) rfl ag58 (mmZ) rfl (atZ)) .nil) rfl (by
      exact ⟨co4, cc4, ct4, rfl, rfl, ⟨oc4, h.q, h.e, by simp only [RS.without, List.length_append]; omega, h.ql, h.el, h.op, h.ek⟩⟩) (pqZ)
theorem mwithout_ok {M : MM} {r : RS} (h : MIs M r) (i : Nat) (hi : i < r.R.length) : Spec Try.prog 85 [mdV M r, .int .i64 (i : Int)] (mdH M r) (fun v H' => ∃ cb cc ctl, v = mdV { M with cb := cb, cc := cc, ctl := ctl } (r.without i) ∧ H' = mdC { M with cb := cb, cc := cc, ctl := ctl } (r.without i) :: mdH M r ∧ MIs { M with cb := cb, cc := cc, ctl := ctl } (r.without i)) := by
  obtain ⟨wc, hwc⟩ := h.c.some_of (by omega)
  have h9 := mwithoutW h i hi wc hwc
  rw [← hwc] at h9
  exact h9
end Go.Proofs.Yteofigbgdbpjgaa
end
section
set_option linter.unusedVariables false
set_option maxRecDepth 20000
set_option maxHeartbeats 2000000
namespace Go.Proofs.Yteofigbgdbpjgaa
theorem mdial_ok {M : MM} {r : RS} (h : MIs M r) (who : Int) (hc : r.R.length < 64) : Spec Try.prog 82 [mdV M r, .int .i64 who] (mdH M r) (fun v H' => ∃ cb cc ctl, v = .tuple #[mdV { M with cb := cb, cc := cc, ctl := ctl } (r.dial who), .int .i64 (r.free : Int)] ∧ H' = mdC { M with cb := cb, cc := cc, ctl := ctl } (r.dial who) :: mdH M r ∧ MIs { M with cb := cb, cc := cc, ctl := ctl } (r.dial who)) := by
  have hcl := h.cl
  refine Spec.of (E := [(0, mdV M r), (1, .int .i64 who)]) Try.func82 rfl (by kernel_rfl) Try.ntmps82 rfl rfl (fun w => ?_)
  refine WC_seq ?_
  refine WC_region ?_
  refine WL_do rfl rfl rfl (D_box (cs := [_, _, _, _, _, _, _]) rfl rfl rfl) ?_
  rintro _ _ ⟨b1, rfl, rfl⟩
  refine WL_do rfl rfl rfl (D_alloc rfl zv58) ?_
  rintro _ _ ⟨b2, rfl, rfl⟩
  refine WL_val rfl rfl rfl (R_assign rfl rfl) ?_
  refine WL_nil ?_
  refine WQ_code ?_
  refine WC_seq ?_
  refine WC_region ?_
  refine WL_val rfl rfl rfl (R_assign rfl rfl) ?_
  refine WL_nil ?_
  refine WQ_code ?_
  refine WC_seq ?_
  refine WC_block ?_
  refine WC_loopF (G := Nat) [6, 7, 8, 9, 10, 11, 12, 13, 14, 15, 16, 17, 18, 19, 20, 21, 22, 23] (fun k => k ≤ r.R.length ∧ ∀ j x, j < k → r.R[j]? = some x → x.num = ((j : Nat) : Int)) (fun k => [(6, .int .i64 (k : Int))]) (fun k => []) (fun k => r.R.length - k) (0) (⟨Nat.zero_le _, fun j x hj => absurd hj (Nat.not_lt_zero _)⟩) leZ (pqZ) ?_
  rintro k ⟨hk, hz⟩
  refine WC_seq ?_
  refine WC_seq ?_
  refine WC_region ?_
  refine WL_val rfl rfl rfl (R_move rfl rfl) ?_
  refine WL_val rfl rfl rfl (R_fieldAddr rfl fa58_4 rfl) ?_
  refine WL_val rfl rfl rfl (R_load rfl sc54 rfl (mmZ) rfl) ?_
  refine WL_val rfl rfl rfl (R_len rfl Try.underlying54 rfl) ?_
  refine WL_val rfl rfl rfl (R_lss rfl rfl rfl) ?_
  refine WL_val rfl rfl rfl (R_move rfl rfl) ?_
  refine WL_splitD (s := 12) rfl (fun c1 => ?_) (fun c1 => ?_)
  · obtain ⟨x, hx⟩ := getE (T := r.R) (i := k) (by omega)
    obtain ⟨wc, hwc⟩ := h.c.some_of (by omega)
    refine WL_val rfl rfl rfl (R_fieldAddr rfl fa58_4 rfl) ?_
    refine WL_val rfl rfl rfl (R_load rfl sc54 rfl (mmZ) rfl) ?_
    refine WL_val rfl rfl rfl (R_move rfl rfl) ?_
    refine WL_val rfl rfl rfl (R_idxO hwc rfl Try.underlying54 Try.sizeOf139 rfl rfl (by omega)) ?_
    refine WL_val rfl rfl rfl (R_fieldAddr rfl fa139_0 rfl) ?_
    refine WL_val rfl rfl rfl (R_loadO (v := .int .i64 x.num) hwc rfl sc3 rfl (mmZ) (fm_get0 encR4 hx (j := 0) (by omega))) ?_
    refine WL_val rfl rfl rfl (R_move rfl rfl) ?_
    refine WL_val rfl rfl rfl (R_eql rfl rfl rfl) ?_
    refine WL_val rfl rfl rfl (R_pickT rfl rfl rfl) ?_
    refine WL_nil ?_
    refine WQ_code ?_
    refine WC_dec rfl (fun c2 => ?_) (fun c2 => ?_)
    · have hxn := c2
      refine WC_skip ?_
      refine WQ_code ?_
      refine WC_block ?_
      refine WC_region ?_
      refine WL_val rfl rfl rfl (R_move rfl rfl) ?_
      refine WL_val rfl rfl rfl (R_add rfl rfl rfl (by omega)) ?_
      refine WL_val rfl rfl rfl (R_assign rfl rfl) ?_
      refine WL_nil ?_
      refine WQ_nextF (k + 1) (⟨by omega, fun j z hj hjx => by rcases Nat.lt_succ_iff_lt_or_eq.1 hj with h9 | h9; exact hz j z h9 hjx; subst h9; rw [hx] at hjx; rw [← Option.some.inj hjx]; exact hxn⟩) (by omega) leZ (psZ) rfl (pqZ)
    · have hfr : r.free = k := free_end hz (.inr ⟨x, hx, c2⟩) hk
      subst hfr
      refine WC_exit ?_
      refine WQ_code ?_
      refine WC_seq ?_
      refine WC_region ?_
      refine WL_val rfl rfl rfl (R_loadA (vs := [_, _, _, _, _, _, _]) rfl ag58 rfl (mmZ) rfl (atZ)) ?_
      refine WL_val rfl rfl rfl (R_move rfl rfl) ?_
      refine WL_val rfl rfl rfl (R_move rfl rfl) ?_
      refine WL_val rfl rfl rfl (R_build rfl zv139 pl139 rfl rfl) ?_
      refine WL_do rfl rfl rfl (D_call (mwith_ok h ⟨(r.free : Int), 1, who, 0⟩ (by have := withR_len ⟨(r.free : Int), 1, who, 0⟩ r.R; omega)) rfl rfl rfl rfl (pqZ)) ?_
      rintro _ _ ⟨_, ⟨cb3, cc3, ct3, rfl, rfl, g3⟩, rfl⟩
      refine WL_val rfl rfl rfl (R_move rfl rfl) ?_
      refine WL_do0 rfl rfl (D_store (vs := [_, _, _, _, _, _, _]) rfl Try.sizeOf58 rfl rfl rfl rfl rfl (plZ) (by exact Nat.le_of_ble_eq_true rfl)) ?_
      rintro _ _ rfl
      refine WL_val rfl rfl rfl (R_assign rfl rfl) ?_
      refine WL_nil ?_
      refine WQ_code ?_
      refine WC_ret ?_
      refine WQ_ret rfl rfl (.cons (.cell (vs := [_, _, _, _, _, _, _]) rfl ag58 (mmZ) rfl (atZ)) (.cons (.tmp rfl) .nil)) rfl (by
          exact ⟨cb3, cc3, ct3, rfl, rfl, g3⟩) (pqZ)
  · have hfr : r.free = k := free_end hz (.inl (by omega)) hk
    subst hfr
    refine WL_skip rfl rfl rfl ?_
    refine WL_skip rfl rfl rfl ?_
    refine WL_skip rfl rfl rfl ?_
    refine WL_skip rfl rfl rfl ?_
    refine WL_skip rfl rfl rfl ?_
    refine WL_skip rfl rfl rfl ?_
    refine WL_skip rfl rfl rfl ?_
    refine WL_skip rfl rfl rfl ?_
    refine WL_val rfl rfl rfl (R_pickF rfl rfl rfl) ?_
    refine WL_nil ?_
    refine WQ_code ?_
    refine WC_F rfl ?_
    refine WC_exit ?_
    refine WQ_code ?_
    refine WC_seq ?_
    refine WC_region ?_
    refine WL_val rfl rfl rfl (R_loadA (vs := [_, _, _, _, _, _, _]) rfl ag58 rfl (mmZ) rfl (atZ)) ?_
    refine WL_val rfl rfl rfl (R_move rfl rfl) ?_
    refine WL_val rfl rfl rfl (R_move rfl rfl) ?_
    refine WL_val rfl rfl rfl (R_build rfl zv139 pl139 rfl rfl) ?_
    refine WL_do rfl rfl rfl (D_call (mwith_ok h ⟨(r.free : Int), 1, who, 0⟩ (by have := withR_len ⟨(r.free : Int), 1, who, 0⟩ r.R; omega)) rfl rfl rfl rfl (pqZ)) ?_
    rintro _ _ ⟨_, ⟨cb3, cc3, ct3, rfl, rfl, g3⟩, rfl⟩
    refine WL_val rfl rfl rfl (R_move rfl rfl) ?_
    refine WL_do0 rfl rfl (D_store (vs := [_, _, _, _, _, _, _]) rfl Try.sizeOf58 rfl rfl rfl rfl rfl (plZ) (by exact Nat.le_of_ble_eq_true rfl)) ?_
    rintro _ _ rfl
    refine WL_val rfl rfl rfl (R_assign rfl rfl) ?_
    refine WL_nil ?_
    refine WQ_code ?_
    refine WC_ret ?_
    refine WQ_ret rfl rfl (.cons (.cell (vs := [_, _, _, _, _, _, _]) rfl ag58 (mmZ) rfl (atZ)) (.cons (.tmp rfl) .nil)) rfl (by
        exact ⟨cb3, cc3, ct3, rfl, rfl, g3⟩) (pqZ)
theorem mwaits_ok {M : MM} {r : RS} (h : MIs M r) (who : Int) : Spec Try.prog 62 [mdV M r, .int .i64 who] (mdH M r) (fun v H' => v = .bool (r.waits who) ∧ H' = mdH M r) := by
  refine Spec.of (E := [(0, mdV M r), (1, .int .i64 who)]) Try.func62 rfl (by kernel_rfl) Try.ntmps62 rfl rfl (fun w => ?_)
  refine WC_seq ?_
  refine WC_region ?_
  refine WL_do rfl rfl rfl (D_box (cs := [_, _, _, _, _, _, _]) rfl rfl rfl) ?_
  rintro _ _ ⟨b1, rfl, rfl⟩
  refine WL_val rfl rfl rfl (R_assign rfl rfl) ?_
  refine WL_nil ?_
  refine WQ_code ?_
  refine WC_seq ?_
  refine WC_draw _ [(0, true), (1, true), (5, true), (6, true), (7, true), (2, false), (3, true), (4, true), (8, true), (9, true)] followsMixed rfl rfl (by kernel_rfl) .all ?_
  refine WM_val rfl rfl rfl rfl (R_loadA (vs := [_, _, _, _, _, _, _]) rfl ag58 rfl (mmZ) rfl (atZ)) ?_
  refine WM_val rfl rfl rfl rfl (R_move rfl rfl) ?_
  refine WM_val rfl rfl rfl rfl (R_fieldAddr rfl fa58_5 rfl) ?_
  refine WM_val rfl rfl rfl rfl (R_load rfl sc55 rfl (mmZ) rfl) ?_
  refine WM_val rfl rfl rfl rfl (R_len rfl Try.underlying55 rfl) ?_
  refine WM_do rfl rfl rfl rfl (D_call (mleave_ok h who) rfl rfl rfl rfl (pqZ)) ?_
  rintro _ _ ⟨_, ⟨qb3, qc3, qt3, rfl, rfl, g3⟩, rfl⟩
  refine ⟨⟨_, pqZ⟩, ?_⟩
  refine WM_val rfl rfl rfl rfl (R_field rfl Try.underlying58 rfl rfl sc55 rfl rfl) ?_
  refine WM_val rfl rfl rfl rfl (R_len rfl Try.underlying55 rfl) ?_
  refine WM_val rfl rfl rfl rfl (R_lss rfl rfl rfl) ?_
  refine WM_val rfl rfl rfl rfl (R_assign rfl rfl) ?_
  refine WM_nil ?_
  refine WQ_code ?_
  refine WC_ret ?_
  refine WQ_ret rfl rfl (.cons (.tmp rfl) .nil) rfl (by
      exact ⟨congrArg Value.bool (decide_eq_decide.2 Int.ofNat_lt), rfl⟩) (pqZ)
theorem mnext_ok {M : MM} {r : RS} (h : MIs M r) (hE : r.E.length < 100000) : Spec Try.prog 84 [mdV M r] (mdH M r) (fun v H' => ∃ M', v = mdV M' r.next ∧ H' = mdH M' r.next ∧ MIs M' r.next) := by
  have hop := h.op
  have hcl := h.cl
  refine Spec.of (E := [(0, mdV M r)]) Try.func84 rfl (by kernel_rfl) Try.ntmps84 rfl rfl (fun w => ?_)
  refine WC_seq ?_
  refine WC_region ?_
  refine WL_do rfl rfl rfl (D_box (cs := [_, _, _, _, _, _, _]) rfl rfl rfl) ?_
  rintro _ _ ⟨b1, rfl, rfl⟩
  refine WL_do rfl rfl rfl (D_alloc rfl zv58) ?_
  rintro _ _ ⟨b2, rfl, rfl⟩
  refine WL_nil ?_
  refine WQ_code ?_
  refine WC_seq ?_
  refine WC_seq ?_
  refine WC_region ?_
  refine WL_val rfl rfl rfl (R_fieldAddr rfl fa58_5 rfl) ?_
  refine WL_val rfl rfl rfl (R_load rfl sc55 rfl (mmZ) rfl) ?_
  refine WL_val rfl rfl rfl (R_len rfl Try.underlying55 rfl) ?_
  refine WL_val rfl rfl rfl (R_eql rfl rfl rfl) ?_
  refine WL_val rfl rfl rfl (R_move rfl rfl) ?_
  refine WL_splitD (s := 9) rfl (fun c1 => ?_) (fun c1 => ?_)
  · have hnx := rnext_none (r := r) (.inl (by omega))
    refine WL_skip rfl rfl rfl ?_
    refine WL_skip rfl rfl rfl ?_
    refine WL_skip rfl rfl rfl ?_
    refine WL_skip rfl rfl rfl ?_
    refine WL_skip rfl rfl rfl ?_
    refine WL_skip rfl rfl rfl ?_
    refine WL_val rfl rfl rfl (R_pickT rfl rfl rfl) ?_
    refine WL_nil ?_
    refine WQ_code ?_
    refine WC_T rfl ?_
    refine WC_seq ?_
    refine WC_region ?_
    refine WL_val rfl rfl rfl (R_loadA (vs := [_, _, _, _, _, _, _]) rfl ag58 rfl (mmZ) rfl (atZ)) ?_
    refine WL_do0 rfl rfl (D_store (vs := [_, _, _, _, _, _, _]) rfl Try.sizeOf58 rfl rfl rfl rfl rfl (plZ) (by exact Nat.le_of_ble_eq_true rfl)) ?_
    rintro _ _ rfl
    refine WL_nil ?_
    refine WQ_code ?_
    refine WC_ret ?_
    refine WQ_ret rfl rfl (.cons (.cell (vs := [_, _, _, _, _, _, _]) rfl ag58 (mmZ) rfl (atZ)) .nil) rfl (by
        rw [hnx]
        first | exact ⟨_, rfl, rfl, h⟩ | exact ⟨_, rfl, rfl, g5⟩) (pqZ)
  · have hq0 : 0 < r.Q.length := by omega
    refine WL_val rfl rfl rfl (R_fieldAddr rfl fa58_4 rfl) ?_
    refine WL_val rfl rfl rfl (R_load rfl sc54 rfl (mmZ) rfl) ?_
    refine WL_val rfl rfl rfl (R_len rfl Try.underlying54 rfl) ?_
    refine WL_val rfl rfl rfl (R_fieldAddr rfl fa58_0 rfl) ?_
    refine WL_val rfl rfl rfl (R_load rfl sc3 rfl (mmZ) rfl) ?_
    refine WL_val rfl rfl rfl (R_geq rfl rfl rfl) ?_
    refine WL_val rfl rfl rfl (R_pickF rfl rfl rfl) ?_
    refine WL_nil ?_
    refine WQ_code ?_
    refine WC_dec rfl (fun c2 => ?_) (fun c2 => ?_)
    · have hnx := rnext_none (r := r) (.inr (by omega))
      refine WC_seq ?_
      refine WC_region ?_
      refine WL_val rfl rfl rfl (R_loadA (vs := [_, _, _, _, _, _, _]) rfl ag58 rfl (mmZ) rfl (atZ)) ?_
      refine WL_do0 rfl rfl (D_store (vs := [_, _, _, _, _, _, _]) rfl Try.sizeOf58 rfl rfl rfl rfl rfl (plZ) (by exact Nat.le_of_ble_eq_true rfl)) ?_
      rintro _ _ rfl
      refine WL_nil ?_
      refine WQ_code ?_
      refine WC_ret ?_
      refine WQ_ret rfl rfl (.cons (.cell (vs := [_, _, _, _, _, _, _]) rfl ag58 (mmZ) rfl (atZ)) .nil) rfl (by
          rw [hnx]
          first | exact ⟨_, rfl, rfl, h⟩ | exact ⟨_, rfl, rfl, g5⟩) (pqZ)
    · have hro : ¬ r.op ≤ r.R.length := by omega
      refine WC_skip ?_
      refine WQ_code ?_
      refine WC_seq ?_
      refine WC_region ?_
      obtain ⟨x, hx⟩ := getE (T := r.Q) (i := 0) (by omega)
      obtain ⟨wq, hwq⟩ := h.q.some_of (by omega)
      refine WL_val rfl rfl rfl (R_fieldAddr rfl fa58_5 rfl) ?_
      refine WL_val rfl rfl rfl (R_load rfl sc55 rfl (mmZ) rfl) ?_
      refine WL_val rfl rfl rfl (R_idxO hwq rfl Try.underlying55 Try.sizeOf144 rfl rfl (by omega)) ?_
      refine WL_val rfl rfl rfl (R_fieldAddr rfl fa144_0 rfl) ?_
      refine WL_val rfl rfl rfl (R_loadO (v := .int .i64 x.1) hwq rfl sc3 rfl (mmZ) (fm_get0 encP2 hx (j := 0) (by omega))) ?_
      refine WL_val rfl rfl rfl (R_assign rfl rfl) ?_
      refine WL_nil ?_
      refine WQ_code ?_
      refine WC_seq ?_
      refine WC_region ?_
      refine WL_val rfl rfl rfl (R_loadA (vs := [_, _, _, _, _, _, _]) rfl ag58 rfl (mmZ) rfl (atZ)) ?_
      refine WL_val rfl rfl rfl (R_move rfl rfl) ?_
      refine WL_do rfl rfl rfl (D_call (mleave_ok h x.1) rfl rfl rfl rfl (pqZ)) ?_
      rintro _ _ ⟨_, ⟨qb3, qc3, qt3, rfl, rfl, g3⟩, rfl⟩
      refine WL_val rfl rfl rfl (R_move rfl rfl) ?_
      refine WL_do rfl rfl rfl (D_call (mdial_ok g3 x.1 (show r.R.length < 64 by omega)) rfl rfl rfl rfl (pqZ)) ?_
      rintro _ _ ⟨_, ⟨cb4, cc4, ct4, rfl, rfl, g4⟩, rfl⟩
      refine WL_val rfl rfl rfl (R_move rfl rfl) ?_
      refine WL_val rfl rfl rfl (R_extract rfl rfl rfl) ?_
      refine WL_val rfl rfl rfl (R_extract rfl rfl rfl) ?_
      refine WL_do0 rfl rfl (D_store (vs := [_, _, _, _, _, _, _]) rfl Try.sizeOf58 rfl rfl rfl rfl rfl (plZ) (by exact Nat.le_of_ble_eq_true rfl)) ?_
      rintro _ _ rfl
      refine WL_val rfl rfl rfl (R_assign rfl rfl) ?_
      refine WL_nil ?_
      refine WQ_code ?_
      refine WC_seq ?_
      refine WC_region ?_
      refine WL_val rfl rfl rfl (R_loadA (vs := [_, _, _, _, _, _, _]) rfl ag58 rfl (mmZ) rfl (atZ)) ?_
      refine WL_val rfl rfl rfl (R_move rfl rfl) ?_
      refine WL_val rfl rfl rfl (R_move rfl rfl) ?_
      refine WL_do rfl rfl rfl (D_call (mtell_ok g4 2 x.1 ((r.leave x.1).free : Int) hE) rfl rfl rfl rfl (pqZ)) ?_
      rintro _ _ ⟨_, ⟨eb5, ec5, et5, rfl, rfl, g5⟩, rfl⟩
      refine WL_do0 rfl rfl (D_store (vs := [_, _, _, _, _, _, _]) rfl Try.sizeOf58 rfl rfl rfl rfl rfl (plZ) (by exact Nat.le_of_ble_eq_true rfl)) ?_
      rintro _ _ rfl
      refine WL_nil ?_
      refine WQ_code ?_
      refine WC_ret ?_
      have hnx := rnext_some hx hro
      refine WQ_ret rfl rfl (.cons (.cell (vs := [_, _, _, _, _, _, _]) rfl ag58 (mmZ) rfl (atZ)) .nil) rfl (by
          rw [hnx]
          first | exact ⟨_, rfl, rfl, h⟩ | exact ⟨_, rfl, rfl, g5⟩) (pqZ)
end Go.Proofs.Yteofigbgdbpjgaa
end
section
set_option linter.unusedVariables false
set_option maxRecDepth 20000
set_option maxHeartbeats 4000000
namespace Go.Proofs.Yteofigbgdbpjgaa
theorem mget_ok {M : MM} {r : RS} (h : MIs M r) (hQ : r.Q.length ≤ 1000) (who : Int) (now dl : Nat) : Spec Try.prog 58 [mdV M r, .int .i64 who, .int .u64 (now : Int), .int .u64 (dl : Int)] (mdH M r) (fun v H' => ∃ M', v = .tuple #[mdV M' (r.get who now dl).1, pvV (r.get who now dl).2.1, .int .i64 (r.get who now dl).2.2] ∧ H' = mdH M' (r.get who now dl).1 ∧ MIs M' (r.get who now dl).1) := by
  have hcl := h.cl
  have hop := h.op
  refine Spec.of (E := [(0, mdV M r), (1, .int .i64 who), (2, .int .u64 (now : Int)), (3, .int .u64 (dl : Int))]) Try.func58 rfl (by kernel_rfl) Try.ntmps58 rfl rfl (fun w => ?_)
  refine WC_seq ?_
  refine WC_region ?_
  refine WL_do rfl rfl rfl (D_box (cs := [_, _, _, _, _, _, _]) rfl rfl rfl) ?_
  rintro _ _ ⟨b1, rfl, rfl⟩
  refine WL_do rfl rfl rfl (D_alloc rfl zv58) ?_
  rintro _ _ ⟨b2, rfl, rfl⟩
  refine WL_do rfl rfl rfl (D_alloc rfl zv44) ?_
  rintro _ _ ⟨b3, rfl, rfl⟩
  refine WL_val rfl rfl rfl (R_assign rfl rfl) ?_
  refine WL_nil ?_
  refine WQ_code ?_
  refine WC_seq ?_
  refine WC_seq ?_
  refine WC_region ?_
  refine WL_val rfl rfl rfl (R_loadA (vs := [_, _, _, _, _, _, _]) rfl ag58 rfl (mmZ) rfl (atZ)) ?_
  refine WL_val rfl rfl rfl (R_move rfl rfl) ?_
  refine WL_val rfl rfl rfl (R_geq rfl rfl rfl) ?_
  refine WL_val rfl rfl rfl (R_move rfl rfl) ?_
  refine WL_splitD (s := 22) rfl (fun c1 => ?_) (fun c1 => ?_)
  · have hg := c1
    refine WL_val rfl rfl rfl (R_move rfl rfl) ?_
    refine WL_val rfl rfl rfl (R_leq rfl rfl rfl) ?_
    refine WL_val rfl rfl rfl (R_pickT rfl rfl rfl) ?_
    refine WL_set (s := 25) (v := .bool (decide (0 ≤ who ∧ who ≤ 1000))) rfl (by first | exact congrArg Value.bool (decide_eq_decide.2 (by omega)) | exact congrArg Value.bool (decide_eq_false (by omega)).symm) ?_
    refine WL_val rfl rfl rfl (R_move rfl rfl) ?_
    refine WL_do rfl rfl rfl (D_call (mwrong_ok h (decide (0 ≤ who ∧ who ≤ 1000)) now) rfl rfl rfl rfl (pqZ)) ?_
    rintro _ _ ⟨_, ⟨rfl, rfl⟩, rfl⟩
    refine WL_val rfl rfl rfl (R_assign rfl rfl) ?_
    refine WL_nil ?_
    refine WQ_code ?_
    refine WC_seq ?_
    refine WC_region ?_
    refine WL_val rfl rfl rfl (R_move rfl rfl) ?_
    refine WL_val rfl rfl rfl (R_neq rfl rfl rfl) ?_
    refine WL_nil ?_
    refine WQ_code ?_
    refine WC_dec rfl (fun c2 => ?_) (fun c2 => ?_)
    · have hget := rg_bad (dl := dl) c2
      refine WC_seq ?_
      refine WC_region ?_
      refine WL_val rfl rfl rfl (R_loadA (vs := [_, _, _, _, _, _, _]) rfl ag58 rfl (mmZ) rfl (atZ)) ?_
      refine WL_val rfl rfl rfl (R_build rfl zv44 pl44 rfl rfl) ?_
      refine WL_val rfl rfl rfl (R_move rfl rfl) ?_
      refine WL_do0 rfl rfl (D_store (vs := [_, _, _, _, _, _, _]) rfl Try.sizeOf58 rfl rfl rfl rfl rfl (plZ) (by exact Nat.le_of_ble_eq_true rfl)) ?_
      rintro _ _ rfl
      refine WL_do0 rfl rfl (D_store (vs := [_, _, _]) rfl Try.sizeOf44 rfl rfl rfl rfl rfl (plZ) (by exact Nat.le_of_ble_eq_true rfl)) ?_
      rintro _ _ rfl
      refine WL_val rfl rfl rfl (R_assign rfl rfl) ?_
      refine WL_nil ?_
      refine WQ_code ?_
      refine WC_ret ?_
      refine WQ_ret rfl rfl (.cons (.cell (vs := [_, _, _, _, _, _, _]) rfl ag58 (mmZ) rfl (atZ)) (.cons (.cell (vs := [_, _, _]) rfl ag44 (mmZ) rfl (atZ)) (.cons (.tmp rfl) .nil))) rfl (by
          rw [hget]
          first | exact ⟨_, rfl, rfl, h⟩ | exact ⟨_, rfl, rfl, g3⟩) (pqZ)
    · have hm := c2
      refine WC_skip ?_
      refine WQ_code ?_
      refine WC_seq ?_
      refine WC_seq ?_
      refine WC_region ?_
      refine WL_val rfl rfl rfl (R_move rfl rfl) ?_
      refine WL_val rfl rfl rfl (R_move rfl rfl) ?_
      refine WL_val rfl rfl rfl (R_leq rfl rfl rfl) ?_
      refine WL_nil ?_
      refine WQ_code ?_
      refine WC_dec rfl (fun c3 => ?_) (fun c3 => ?_)
      · have hget := rg_late hm (show dl ≤ now by omega)
        refine WC_seq ?_
        refine WC_region ?_
        refine WL_val rfl rfl rfl (R_loadA (vs := [_, _, _, _, _, _, _]) rfl ag58 rfl (mmZ) rfl (atZ)) ?_
        refine WL_val rfl rfl rfl (R_build rfl zv44 pl44 rfl rfl) ?_
        refine WL_do0 rfl rfl (D_store (vs := [_, _, _, _, _, _, _]) rfl Try.sizeOf58 rfl rfl rfl rfl rfl (plZ) (by exact Nat.le_of_ble_eq_true rfl)) ?_
        rintro _ _ rfl
        refine WL_do0 rfl rfl (D_store (vs := [_, _, _]) rfl Try.sizeOf44 rfl rfl rfl rfl rfl (plZ) (by exact Nat.le_of_ble_eq_true rfl)) ?_
        rintro _ _ rfl
        refine WL_val rfl rfl rfl (R_assign rfl rfl) ?_
        refine WL_nil ?_
        refine WQ_code ?_
        refine WC_ret ?_
        refine WQ_ret rfl rfl (.cons (.cell (vs := [_, _, _, _, _, _, _]) rfl ag58 (mmZ) rfl (atZ)) (.cons (.cell (vs := [_, _, _]) rfl ag44 (mmZ) rfl (atZ)) (.cons (.tmp rfl) .nil))) rfl (by
            rw [hget]
            first | exact ⟨_, rfl, rfl, h⟩ | exact ⟨_, rfl, rfl, g3⟩) (pqZ)
      · have hd : ¬ dl ≤ now := by omega
        refine WC_skip ?_
        refine WQ_code ?_
        refine WC_seq ?_
        refine WC_region ?_
        refine WL_val rfl rfl rfl (R_loadA (vs := [_, _, _, _, _, _, _]) rfl ag58 rfl (mmZ) rfl (atZ)) ?_
        refine WL_val rfl rfl rfl (R_move rfl rfl) ?_
        refine WL_do rfl rfl rfl (D_call (mwaits_ok h who) rfl rfl rfl rfl (pqZ)) ?_
        rintro _ _ ⟨_, ⟨rfl, rfl⟩, rfl⟩
        refine WL_val rfl rfl rfl (R_assign rfl rfl) ?_
        refine WL_nil ?_
        refine WQ_code ?_
        refine WC_seq ?_
        refine WC_region ?_
        refine WL_val rfl rfl rfl (R_assign rfl rfl) ?_
        refine WL_nil ?_
        refine WQ_code ?_
        refine WC_seq ?_
        refine WC_seq ?_
        refine WC_region ?_
        refine WL_val rfl rfl rfl (R_assign rfl rfl) ?_
        refine WL_nil ?_
        refine WQ_code ?_
        refine WC_block ?_
        refine WC_loopF (G := GtW) [12, 13, 14, 15, 41, 42, 43, 44, 45, 46, 47, 48, 49, 50, 51, 52, 53, 54, 55, 56, 57, 58, 59, 60, 61, 62, 63, 64, 65, 66, 67, 68, 69, 70, 71, 72, 73, 74, 75, 76, 77, 78, 79, 80, 81, 82, 83] (fun y => y.k ≤ r.R.length ∧ y.b = (r.waits who || (r.R.take y.k).any (fBusy who)) ∧ y.o = selK pIdle qLate r.R y.k) (fun y => [(14, .int .i64 (y.k : Int)), (12, .bool y.b), (13, .int .i64 (optI y.o))]) (fun y => []) (fun y => r.R.length - y.k) (⟨0, r.waits who, none⟩) (⟨Nat.zero_le _, by simp, rfl⟩) leZ (pqZ) ?_
        rintro y ⟨hk, hyb, hyo⟩
        refine WC_seq ?_
        refine WC_seq ?_
        refine WC_region ?_
        refine WL_val rfl rfl rfl (R_move rfl rfl) ?_
        refine WL_val rfl rfl rfl (R_fieldAddr rfl fa58_4 rfl) ?_
        refine WL_val rfl rfl rfl (R_load rfl sc54 rfl (mmZ) rfl) ?_
        refine WL_val rfl rfl rfl (R_len rfl Try.underlying54 rfl) ?_
        refine WL_val rfl rfl rfl (R_lss rfl rfl rfl) ?_
        refine WL_nil ?_
        refine WQ_code ?_
        refine WC_dec rfl (fun c4 => ?_) (fun c4 => ?_)
        · refine WC_skip ?_
          refine WQ_code ?_
          refine WC_seq ?_
          refine WC_block ?_
          refine WC_seq ?_
          refine WC_region ?_
          obtain ⟨x, hx⟩ := getE (T := r.R) (i := y.k) (by omega)
          obtain ⟨wc, hwc⟩ := h.c.some_of (by omega)
          refine WL_val rfl rfl rfl (R_fieldAddr rfl fa58_4 rfl) ?_
          refine WL_val rfl rfl rfl (R_load rfl sc54 rfl (mmZ) rfl) ?_
          refine WL_val rfl rfl rfl (R_move rfl rfl) ?_
          refine WL_val rfl rfl rfl (R_idxO hwc rfl Try.underlying54 Try.sizeOf139 rfl rfl (by omega)) ?_
          refine WL_val rfl rfl rfl (R_loadAO (vs := encR x) hwc rfl ag139 rfl (mmZ) rfl (fm_at0 encR4 hx (j := 0) (vs := encR x) (fun j v hj => by rw [Nat.zero_add]; exact hj) (Nat.le_refl _))) ?_
          refine WL_do rfl rfl rfl (D_alloc rfl zv139) ?_
          rintro _ _ ⟨b4, rfl, rfl⟩
          refine WL_do0 rfl rfl (D_store (vs := [_, _, _, _]) rfl Try.sizeOf139 rfl rfl rfl rfl rfl (plZ) (by exact Nat.le_of_ble_eq_true rfl)) ?_
          rintro _ _ rfl
          refine WL_nil ?_
          refine WQ_code ?_
          refine WC_seq ?_
          refine WC_region ?_
          refine WL_val rfl rfl rfl (R_move rfl rfl) ?_
          refine WL_val rfl rfl rfl (R_move rfl rfl) ?_
          refine WL_split (s := 54) rfl (fun c5 => ?_) (fun c5 => ?_)
          · have hg1 : y.b = true := c5
            refine WL_skip rfl rfl rfl ?_
            refine WL_skip rfl rfl rfl ?_
            refine WL_skip rfl rfl rfl ?_
            refine WL_skip rfl rfl rfl ?_
            refine WL_skip rfl rfl rfl ?_
            refine WL_skip rfl rfl rfl ?_
            refine WL_skip rfl rfl rfl ?_
            refine WL_skip rfl rfl rfl ?_
            refine WL_skip rfl rfl rfl ?_
            refine WL_val rfl rfl rfl (R_pickT rfl rfl rfl) ?_
            refine WL_set (s := 64) (v := .bool (y.b || fBusy who x)) rfl (by first | (simp [hg1, fBusy, hs1]; done) | (simp [hg1]; done)) ?_
            refine WL_val rfl rfl rfl (R_assign rfl rfl) ?_
            refine WL_nil ?_
            refine WQ_code ?_
            refine WC_seq ?_
            refine WC_draw _ [(0, true), (1, true), (2, true), (3, true), (4, true), (5, true), (6, true), (7, true), (8, true), (9, true), (10, true), (11, true), (12, true), (13, true), (14, true), (15, true), (16, true), (17, true)] followsMixed rfl rfl (by kernel_rfl) .all ?_
            refine WM_val rfl rfl rfl rfl (R_fieldAddr rfl fa139_1 rfl) ?_
            refine WM_val rfl rfl rfl rfl (R_load rfl sc3 rfl (mmZ) rfl) ?_
            refine WM_val rfl rfl rfl rfl (R_eql rfl rfl rfl) ?_
            refine WM_val rfl rfl rfl rfl (R_move rfl rfl) ?_
            refine WM_splitD (s := 68) rfl (fun c6 => ?_) (fun c6 => ?_)
            · have hs3 : pIdle x = true := decide_eq_true c6
              refine WM_val rfl rfl rfl rfl (R_move rfl rfl) ?_
              refine WM_val rfl rfl rfl rfl (R_lss rfl rfl rfl) ?_
              refine WM_val rfl rfl rfl rfl (R_move rfl rfl) ?_
              refine WM_splitD (s := 71) rfl (fun c7 => ?_) (fun c7 => ?_)
              · have hnx := selK_yes (p := pIdle) (q := qLate) hx hs3 (hyo.symm.trans (optI_neg c7))
                refine WM_skip rfl rfl rfl rfl ?_
                refine WM_skip rfl rfl rfl rfl ?_
                refine WM_skip rfl rfl rfl rfl ?_
                refine WM_skip rfl rfl rfl rfl ?_
                refine WM_skip rfl rfl rfl rfl ?_
                refine WM_skip rfl rfl rfl rfl ?_
                refine WM_skip rfl rfl rfl rfl ?_
                refine WM_skip rfl rfl rfl rfl ?_
                refine WM_skip rfl rfl rfl rfl ?_
                refine WM_val rfl rfl rfl rfl (R_pickT rfl rfl rfl) ?_
                refine WM_val rfl rfl rfl rfl (R_pickT rfl rfl rfl) ?_
                refine WM_nil ?_
                refine WQ_code ?_
                refine WC_T rfl ?_
                refine WC_region ?_
                refine WL_val rfl rfl rfl (R_move rfl rfl) ?_
                refine WL_val rfl rfl rfl (R_assign rfl rfl) ?_
                refine WL_nil ?_
                refine WQ_code ?_
                refine WC_region ?_
                refine WL_val rfl rfl rfl (R_move rfl rfl) ?_
                refine WL_val rfl rfl rfl (R_add rfl rfl rfl (by omega)) ?_
                refine WL_val rfl rfl rfl (R_assign rfl rfl) ?_
                refine WL_nil ?_
                refine WQ_nextF (⟨y.k + 1, y.b || fBusy who x, some y.k⟩) (⟨by dsimp only; omega, by dsimp only; rw [take_next hx, List.any_append, List.any_cons, List.any_nil, Bool.or_false, ← Bool.or_assoc, ← hyb], by first | exact hnx.symm | exact hyo.trans hnx.symm⟩) (by dsimp only; omega) leZ (psZ) rfl (pqZ)
              · obtain ⟨j, hj⟩ := optI_pos c7
                obtain ⟨hjk, z, hz, _⟩ := selK_lt (hyo.symm.trans hj)
                refine WM_val rfl rfl rfl rfl (R_fieldAddr rfl fa139_3 rfl) ?_
                refine WM_val rfl rfl rfl rfl (R_load rfl sc28 rfl (mmZ) rfl) ?_
                refine WM_val rfl rfl rfl rfl (R_fieldAddr rfl fa58_4 rfl) ?_
                refine WM_val rfl rfl rfl rfl (R_load rfl sc54 rfl (mmZ) rfl) ?_
                refine WM_val rfl rfl rfl rfl (R_move rfl rfl) ?_
                refine WM_set (s := 76) (v := .int .i64 (j : Int)) rfl (by rw [hj]; rfl) ?_
                refine WM_val rfl rfl rfl rfl (R_idxO hwc rfl Try.underlying54 Try.sizeOf139 rfl rfl (by omega)) ?_
                refine WM_val rfl rfl rfl rfl (R_fieldAddr rfl fa139_3 rfl) ?_
                refine WM_val rfl rfl rfl rfl (R_loadO (v := .int .u64 (z.since : Int)) hwc rfl sc28 rfl (mmZ) (fm_get0 encR4 hz (j := 3) (by omega))) ?_
                refine WM_val rfl rfl rfl rfl (R_geq rfl rfl rfl) ?_
                refine WM_val rfl rfl rfl rfl (R_pickF rfl rfl rfl) ?_
                refine WM_val rfl rfl rfl rfl (R_pickT rfl rfl rfl) ?_
                refine WM_nil ?_
                refine WQ_code ?_
                refine WC_dec rfl (fun c8 => ?_) (fun c8 => ?_)
                · have hnx := selK_yes2 (p := pIdle) (q := qLate) hx hs3 (hyo.symm.trans hj) hz (decide_eq_true (by omega))
                  refine WC_region ?_
                  refine WL_val rfl rfl rfl (R_move rfl rfl) ?_
                  refine WL_val rfl rfl rfl (R_assign rfl rfl) ?_
                  refine WL_nil ?_
                  refine WQ_code ?_
                  refine WC_region ?_
                  refine WL_val rfl rfl rfl (R_move rfl rfl) ?_
                  refine WL_val rfl rfl rfl (R_add rfl rfl rfl (by omega)) ?_
                  refine WL_val rfl rfl rfl (R_assign rfl rfl) ?_
                  refine WL_nil ?_
                  refine WQ_nextF (⟨y.k + 1, y.b || fBusy who x, some y.k⟩) (⟨by dsimp only; omega, by dsimp only; rw [take_next hx, List.any_append, List.any_cons, List.any_nil, Bool.or_false, ← Bool.or_assoc, ← hyb], by first | exact hnx.symm | exact hyo.trans hnx.symm⟩) (by dsimp only; omega) leZ (psZ) rfl (pqZ)
                · have hnx := selK_no2 (p := pIdle) (q := qLate) hx (hyo.symm.trans hj) hz (decide_eq_false (by omega))
                  refine WC_skip ?_
                  refine WQ_code ?_
                  refine WC_region ?_
                  refine WL_val rfl rfl rfl (R_move rfl rfl) ?_
                  refine WL_val rfl rfl rfl (R_add rfl rfl rfl (by omega)) ?_
                  refine WL_val rfl rfl rfl (R_assign rfl rfl) ?_
                  refine WL_nil ?_
                  refine WQ_nextF (⟨y.k + 1, y.b || fBusy who x, y.o⟩) (⟨by dsimp only; omega, by dsimp only; rw [take_next hx, List.any_append, List.any_cons, List.any_nil, Bool.or_false, ← Bool.or_assoc, ← hyb], by first | exact hnx.symm | exact hyo.trans hnx.symm⟩) (by dsimp only; omega) leZ (psZ) rfl (pqZ)
            · have hnx := selK_no (p := pIdle) (q := qLate) hx (decide_eq_false c6)
              refine WM_skip rfl rfl rfl rfl ?_
              refine WM_skip rfl rfl rfl rfl ?_
              refine WM_skip rfl rfl rfl rfl ?_
              refine WM_skip rfl rfl rfl rfl ?_
              refine WM_skip rfl rfl rfl rfl ?_
              refine WM_skip rfl rfl rfl rfl ?_
              refine WM_skip rfl rfl rfl rfl ?_
              refine WM_skip rfl rfl rfl rfl ?_
              refine WM_skip rfl rfl rfl rfl ?_
              refine WM_skip rfl rfl rfl rfl ?_
              refine WM_skip rfl rfl rfl rfl ?_
              refine WM_skip rfl rfl rfl rfl ?_
              refine WM_skip rfl rfl rfl rfl ?_
              refine WM_val rfl rfl rfl rfl (R_pickF rfl rfl rfl) ?_
              refine WM_nil ?_
              refine WQ_code ?_
              refine WC_F rfl ?_
              refine WC_skip ?_
              refine WQ_code ?_
              refine WC_region ?_
              refine WL_val rfl rfl rfl (R_move rfl rfl) ?_
              refine WL_val rfl rfl rfl (R_add rfl rfl rfl (by omega)) ?_
              refine WL_val rfl rfl rfl (R_assign rfl rfl) ?_
              refine WL_nil ?_
              refine WQ_nextF (⟨y.k + 1, y.b || fBusy who x, y.o⟩) (⟨by dsimp only; omega, by dsimp only; rw [take_next hx, List.any_append, List.any_cons, List.any_nil, Bool.or_false, ← Bool.or_assoc, ← hyb], by first | exact hnx.symm | exact hyo.trans hnx.symm⟩) (by dsimp only; omega) leZ (psZ) rfl (pqZ)
          · have hg1 : y.b = false := c5
            refine WL_val rfl rfl rfl (R_fieldAddr rfl fa139_1 rfl) ?_
            refine WL_val rfl rfl rfl (R_load rfl sc3 rfl (mmZ) rfl) ?_
            refine WL_val rfl rfl rfl (R_eql rfl rfl rfl) ?_
            refine WL_val rfl rfl rfl (R_move rfl rfl) ?_
            refine WL_splitD (s := 58) rfl (fun c9 => ?_) (fun c9 => ?_)
            · have hs1 : x.st = 1 := c9
              refine WL_val rfl rfl rfl (R_fieldAddr rfl fa139_2 rfl) ?_
              refine WL_val rfl rfl rfl (R_load rfl sc3 rfl (mmZ) rfl) ?_
              refine WL_val rfl rfl rfl (R_move rfl rfl) ?_
              refine WL_val rfl rfl rfl (R_eql rfl rfl rfl) ?_
              refine WL_val rfl rfl rfl (R_pickT rfl rfl rfl) ?_
              refine WL_val rfl rfl rfl (R_pickF rfl rfl rfl) ?_
              refine WL_set (s := 64) (v := .bool (y.b || fBusy who x)) rfl (by first | (simp [hg1, fBusy, hs1]; done) | (simp [hg1]; done)) ?_
              refine WL_val rfl rfl rfl (R_assign rfl rfl) ?_
              refine WL_nil ?_
              refine WQ_code ?_
              refine WC_seq ?_
              refine WC_draw _ [(0, true), (1, true), (2, true), (3, true), (4, true), (5, true), (6, true), (7, true), (8, true), (9, true), (10, true), (11, true), (12, true), (13, true), (14, true), (15, true), (16, true), (17, true)] followsMixed rfl rfl (by kernel_rfl) .all ?_
              refine WM_val rfl rfl rfl rfl (R_fieldAddr rfl fa139_1 rfl) ?_
              refine WM_val rfl rfl rfl rfl (R_load rfl sc3 rfl (mmZ) rfl) ?_
              refine WM_val rfl rfl rfl rfl (R_eql rfl rfl rfl) ?_
              refine WM_val rfl rfl rfl rfl (R_move rfl rfl) ?_
              refine WM_splitD (s := 68) rfl (fun c10 => ?_) (fun c10 => ?_)
              · have hs3 : pIdle x = true := decide_eq_true c10
                refine WM_val rfl rfl rfl rfl (R_move rfl rfl) ?_
                refine WM_val rfl rfl rfl rfl (R_lss rfl rfl rfl) ?_
                refine WM_val rfl rfl rfl rfl (R_move rfl rfl) ?_
                refine WM_splitD (s := 71) rfl (fun c11 => ?_) (fun c11 => ?_)
                · have hnx := selK_yes (p := pIdle) (q := qLate) hx hs3 (hyo.symm.trans (optI_neg c11))
                  refine WM_skip rfl rfl rfl rfl ?_
                  refine WM_skip rfl rfl rfl rfl ?_
                  refine WM_skip rfl rfl rfl rfl ?_
                  refine WM_skip rfl rfl rfl rfl ?_
                  refine WM_skip rfl rfl rfl rfl ?_
                  refine WM_skip rfl rfl rfl rfl ?_
                  refine WM_skip rfl rfl rfl rfl ?_
                  refine WM_skip rfl rfl rfl rfl ?_
                  refine WM_skip rfl rfl rfl rfl ?_
                  refine WM_val rfl rfl rfl rfl (R_pickT rfl rfl rfl) ?_
                  refine WM_val rfl rfl rfl rfl (R_pickT rfl rfl rfl) ?_
                  refine WM_nil ?_
                  refine WQ_code ?_
                  refine WC_T rfl ?_
                  refine WC_region ?_
                  refine WL_val rfl rfl rfl (R_move rfl rfl) ?_
                  refine WL_val rfl rfl rfl (R_assign rfl rfl) ?_
                  refine WL_nil ?_
                  refine WQ_code ?_
                  refine WC_region ?_
                  refine WL_val rfl rfl rfl (R_move rfl rfl) ?_
                  refine WL_val rfl rfl rfl (R_add rfl rfl rfl (by omega)) ?_
                  refine WL_val rfl rfl rfl (R_assign rfl rfl) ?_
                  refine WL_nil ?_
                  refine WQ_nextF (⟨y.k + 1, y.b || fBusy who x, some y.k⟩) (⟨by dsimp only; omega, by dsimp only; rw [take_next hx, List.any_append, List.any_cons, List.any_nil, Bool.or_false, ← Bool.or_assoc, ← hyb], by first | exact hnx.symm | exact hyo.trans hnx.symm⟩) (by dsimp only; omega) leZ (psZ) rfl (pqZ)
                · obtain ⟨j, hj⟩ := optI_pos c11
                  obtain ⟨hjk, z, hz, _⟩ := selK_lt (hyo.symm.trans hj)
                  refine WM_val rfl rfl rfl rfl (R_fieldAddr rfl fa139_3 rfl) ?_
                  refine WM_val rfl rfl rfl rfl (R_load rfl sc28 rfl (mmZ) rfl) ?_
                  refine WM_val rfl rfl rfl rfl (R_fieldAddr rfl fa58_4 rfl) ?_
                  refine WM_val rfl rfl rfl rfl (R_load rfl sc54 rfl (mmZ) rfl) ?_
                  refine WM_val rfl rfl rfl rfl (R_move rfl rfl) ?_
                  refine WM_set (s := 76) (v := .int .i64 (j : Int)) rfl (by rw [hj]; rfl) ?_
                  refine WM_val rfl rfl rfl rfl (R_idxO hwc rfl Try.underlying54 Try.sizeOf139 rfl rfl (by omega)) ?_
                  refine WM_val rfl rfl rfl rfl (R_fieldAddr rfl fa139_3 rfl) ?_
                  refine WM_val rfl rfl rfl rfl (R_loadO (v := .int .u64 (z.since : Int)) hwc rfl sc28 rfl (mmZ) (fm_get0 encR4 hz (j := 3) (by omega))) ?_
                  refine WM_val rfl rfl rfl rfl (R_geq rfl rfl rfl) ?_
                  refine WM_val rfl rfl rfl rfl (R_pickF rfl rfl rfl) ?_
                  refine WM_val rfl rfl rfl rfl (R_pickT rfl rfl rfl) ?_
                  refine WM_nil ?_
                  refine WQ_code ?_
                  refine WC_dec rfl (fun c12 => ?_) (fun c12 => ?_)
                  · have hnx := selK_yes2 (p := pIdle) (q := qLate) hx hs3 (hyo.symm.trans hj) hz (decide_eq_true (by omega))
                    refine WC_region ?_
                    refine WL_val rfl rfl rfl (R_move rfl rfl) ?_
                    refine WL_val rfl rfl rfl (R_assign rfl rfl) ?_
                    refine WL_nil ?_
                    refine WQ_code ?_
                    refine WC_region ?_
                    refine WL_val rfl rfl rfl (R_move rfl rfl) ?_
                    refine WL_val rfl rfl rfl (R_add rfl rfl rfl (by omega)) ?_
                    refine WL_val rfl rfl rfl (R_assign rfl rfl) ?_
                    refine WL_nil ?_
                    refine WQ_nextF (⟨y.k + 1, y.b || fBusy who x, some y.k⟩) (⟨by dsimp only; omega, by dsimp only; rw [take_next hx, List.any_append, List.any_cons, List.any_nil, Bool.or_false, ← Bool.or_assoc, ← hyb], by first | exact hnx.symm | exact hyo.trans hnx.symm⟩) (by dsimp only; omega) leZ (psZ) rfl (pqZ)
                  · have hnx := selK_no2 (p := pIdle) (q := qLate) hx (hyo.symm.trans hj) hz (decide_eq_false (by omega))
                    refine WC_skip ?_
                    refine WQ_code ?_
                    refine WC_region ?_
                    refine WL_val rfl rfl rfl (R_move rfl rfl) ?_
                    refine WL_val rfl rfl rfl (R_add rfl rfl rfl (by omega)) ?_
                    refine WL_val rfl rfl rfl (R_assign rfl rfl) ?_
                    refine WL_nil ?_
                    refine WQ_nextF (⟨y.k + 1, y.b || fBusy who x, y.o⟩) (⟨by dsimp only; omega, by dsimp only; rw [take_next hx, List.any_append, List.any_cons, List.any_nil, Bool.or_false, ← Bool.or_assoc, ← hyb], by first | exact hnx.symm | exact hyo.trans hnx.symm⟩) (by dsimp only; omega) leZ (psZ) rfl (pqZ)
              · have hnx := selK_no (p := pIdle) (q := qLate) hx (decide_eq_false c10)
                refine WM_skip rfl rfl rfl rfl ?_
                refine WM_skip rfl rfl rfl rfl ?_
                refine WM_skip rfl rfl rfl rfl ?_
                refine WM_skip rfl rfl rfl rfl ?_
                refine WM_skip rfl rfl rfl rfl ?_
                refine WM_skip rfl rfl rfl rfl ?_
                refine WM_skip rfl rfl rfl rfl ?_
                refine WM_skip rfl rfl rfl rfl ?_
                refine WM_skip rfl rfl rfl rfl ?_
                refine WM_skip rfl rfl rfl rfl ?_
                refine WM_skip rfl rfl rfl rfl ?_
                refine WM_skip rfl rfl rfl rfl ?_
                refine WM_skip rfl rfl rfl rfl ?_
                refine WM_val rfl rfl rfl rfl (R_pickF rfl rfl rfl) ?_
                refine WM_nil ?_
                refine WQ_code ?_
                refine WC_F rfl ?_
                refine WC_skip ?_
                refine WQ_code ?_
                refine WC_region ?_
                refine WL_val rfl rfl rfl (R_move rfl rfl) ?_
                refine WL_val rfl rfl rfl (R_add rfl rfl rfl (by omega)) ?_
                refine WL_val rfl rfl rfl (R_assign rfl rfl) ?_
                refine WL_nil ?_
                refine WQ_nextF (⟨y.k + 1, y.b || fBusy who x, y.o⟩) (⟨by dsimp only; omega, by dsimp only; rw [take_next hx, List.any_append, List.any_cons, List.any_nil, Bool.or_false, ← Bool.or_assoc, ← hyb], by first | exact hnx.symm | exact hyo.trans hnx.symm⟩) (by dsimp only; omega) leZ (psZ) rfl (pqZ)
            · have hs1 : ¬ x.st = 1 := c9
              refine WL_skip rfl rfl rfl ?_
              refine WL_skip rfl rfl rfl ?_
              refine WL_skip rfl rfl rfl ?_
              refine WL_skip rfl rfl rfl ?_
              refine WL_val rfl rfl rfl (R_pickF rfl rfl rfl) ?_
              refine WL_val rfl rfl rfl (R_pickF rfl rfl rfl) ?_
              refine WL_set (s := 64) (v := .bool (y.b || fBusy who x)) rfl (by first | (simp [hg1, fBusy, hs1]; done) | (simp [hg1]; done)) ?_
              refine WL_val rfl rfl rfl (R_assign rfl rfl) ?_
              refine WL_nil ?_
              refine WQ_code ?_
              refine WC_seq ?_
              refine WC_draw _ [(0, true), (1, true), (2, true), (3, true), (4, true), (5, true), (6, true), (7, true), (8, true), (9, true), (10, true), (11, true), (12, true), (13, true), (14, true), (15, true), (16, true), (17, true)] followsMixed rfl rfl (by kernel_rfl) .all ?_
              refine WM_val rfl rfl rfl rfl (R_fieldAddr rfl fa139_1 rfl) ?_
              refine WM_val rfl rfl rfl rfl (R_load rfl sc3 rfl (mmZ) rfl) ?_
              refine WM_val rfl rfl rfl rfl (R_eql rfl rfl rfl) ?_
              refine WM_val rfl rfl rfl rfl (R_move rfl rfl) ?_
              refine WM_splitD (s := 68) rfl (fun c13 => ?_) (fun c13 => ?_)
              · have hs3 : pIdle x = true := decide_eq_true c13
                refine WM_val rfl rfl rfl rfl (R_move rfl rfl) ?_
                refine WM_val rfl rfl rfl rfl (R_lss rfl rfl rfl) ?_
                refine WM_val rfl rfl rfl rfl (R_move rfl rfl) ?_
                refine WM_splitD (s := 71) rfl (fun c14 => ?_) (fun c14 => ?_)
                · have hnx := selK_yes (p := pIdle) (q := qLate) hx hs3 (hyo.symm.trans (optI_neg c14))
                  refine WM_skip rfl rfl rfl rfl ?_
                  refine WM_skip rfl rfl rfl rfl ?_
                  refine WM_skip rfl rfl rfl rfl ?_
                  refine WM_skip rfl rfl rfl rfl ?_
                  refine WM_skip rfl rfl rfl rfl ?_
                  refine WM_skip rfl rfl rfl rfl ?_
                  refine WM_skip rfl rfl rfl rfl ?_
                  refine WM_skip rfl rfl rfl rfl ?_
                  refine WM_skip rfl rfl rfl rfl ?_
                  refine WM_val rfl rfl rfl rfl (R_pickT rfl rfl rfl) ?_
                  refine WM_val rfl rfl rfl rfl (R_pickT rfl rfl rfl) ?_
                  refine WM_nil ?_
                  refine WQ_code ?_
                  refine WC_T rfl ?_
                  refine WC_region ?_
                  refine WL_val rfl rfl rfl (R_move rfl rfl) ?_
                  refine WL_val rfl rfl rfl (R_assign rfl rfl) ?_
                  refine WL_nil ?_
                  refine WQ_code ?_
                  refine WC_region ?_
                  refine WL_val rfl rfl rfl (R_move rfl rfl) ?_
                  refine WL_val rfl rfl rfl (R_add rfl rfl rfl (by omega)) ?_
                  refine WL_val rfl rfl rfl (R_assign rfl rfl) ?_
                  refine WL_nil ?_
                  refine WQ_nextF (⟨y.k + 1, y.b || fBusy who x, some y.k⟩) (⟨by dsimp only; omega, by dsimp only; rw [take_next hx, List.any_append, List.any_cons, List.any_nil, Bool.or_false, ← Bool.or_assoc, ← hyb], by first | exact hnx.symm | exact hyo.trans hnx.symm⟩) (by dsimp only; omega) leZ (psZ) rfl (pqZ)
                · obtain ⟨j, hj⟩ := optI_pos c14
                  obtain ⟨hjk, z, hz, _⟩ := selK_lt (hyo.symm.trans hj)
                  refine WM_val rfl rfl rfl rfl (R_fieldAddr rfl fa139_3 rfl) ?_
                  refine WM_val rfl rfl rfl rfl (R_load rfl sc28 rfl (mmZ) rfl) ?_
                  refine WM_val rfl rfl rfl rfl (R_fieldAddr rfl fa58_4 rfl) ?_
                  refine WM_val rfl rfl rfl rfl (R_load rfl sc54 rfl (mmZ) rfl) ?_
                  refine WM_val rfl rfl rfl rfl (R_move rfl rfl) ?_
                  refine WM_set (s := 76) (v := .int .i64 (j : Int)) rfl (by rw [hj]; rfl) ?_
                  refine WM_val rfl rfl rfl rfl (R_idxO hwc rfl Try.underlying54 Try.sizeOf139 rfl rfl (by omega)) ?_
                  refine WM_val rfl rfl rfl rfl (R_fieldAddr rfl fa139_3 rfl) ?_
                  refine WM_val rfl rfl rfl rfl (R_loadO (v := .int .u64 (z.since : Int)) hwc rfl sc28 rfl (mmZ) (fm_get0 encR4 hz (j := 3) (by omega))) ?_
                  refine WM_val rfl rfl rfl rfl (R_geq rfl rfl rfl) ?_
                  refine WM_val rfl rfl rfl rfl (R_pickF rfl rfl rfl) ?_
                  refine WM_val rfl rfl rfl rfl (R_pickT rfl rfl rfl) ?_
                  refine WM_nil ?_
                  refine WQ_code ?_
                  refine WC_dec rfl (fun c15 => ?_) (fun c15 => ?_)
                  · have hnx := selK_yes2 (p := pIdle) (q := qLate) hx hs3 (hyo.symm.trans hj) hz (decide_eq_true (by omega))
                    refine WC_region ?_
                    refine WL_val rfl rfl rfl (R_move rfl rfl) ?_
                    refine WL_val rfl rfl rfl (R_assign rfl rfl) ?_
                    refine WL_nil ?_
                    refine WQ_code ?_
                    refine WC_region ?_
                    refine WL_val rfl rfl rfl (R_move rfl rfl) ?_
                    refine WL_val rfl rfl rfl (R_add rfl rfl rfl (by omega)) ?_
                    refine WL_val rfl rfl rfl (R_assign rfl rfl) ?_
                    refine WL_nil ?_
                    refine WQ_nextF (⟨y.k + 1, y.b || fBusy who x, some y.k⟩) (⟨by dsimp only; omega, by dsimp only; rw [take_next hx, List.any_append, List.any_cons, List.any_nil, Bool.or_false, ← Bool.or_assoc, ← hyb], by first | exact hnx.symm | exact hyo.trans hnx.symm⟩) (by dsimp only; omega) leZ (psZ) rfl (pqZ)
                  · have hnx := selK_no2 (p := pIdle) (q := qLate) hx (hyo.symm.trans hj) hz (decide_eq_false (by omega))
                    refine WC_skip ?_
                    refine WQ_code ?_
                    refine WC_region ?_
                    refine WL_val rfl rfl rfl (R_move rfl rfl) ?_
                    refine WL_val rfl rfl rfl (R_add rfl rfl rfl (by omega)) ?_
                    refine WL_val rfl rfl rfl (R_assign rfl rfl) ?_
                    refine WL_nil ?_
                    refine WQ_nextF (⟨y.k + 1, y.b || fBusy who x, y.o⟩) (⟨by dsimp only; omega, by dsimp only; rw [take_next hx, List.any_append, List.any_cons, List.any_nil, Bool.or_false, ← Bool.or_assoc, ← hyb], by first | exact hnx.symm | exact hyo.trans hnx.symm⟩) (by dsimp only; omega) leZ (psZ) rfl (pqZ)
              · have hnx := selK_no (p := pIdle) (q := qLate) hx (decide_eq_false c13)
                refine WM_skip rfl rfl rfl rfl ?_
                refine WM_skip rfl rfl rfl rfl ?_
                refine WM_skip rfl rfl rfl rfl ?_
                refine WM_skip rfl rfl rfl rfl ?_
                refine WM_skip rfl rfl rfl rfl ?_
                refine WM_skip rfl rfl rfl rfl ?_
                refine WM_skip rfl rfl rfl rfl ?_
                refine WM_skip rfl rfl rfl rfl ?_
                refine WM_skip rfl rfl rfl rfl ?_
                refine WM_skip rfl rfl rfl rfl ?_
                refine WM_skip rfl rfl rfl rfl ?_
                refine WM_skip rfl rfl rfl rfl ?_
                refine WM_skip rfl rfl rfl rfl ?_
                refine WM_val rfl rfl rfl rfl (R_pickF rfl rfl rfl) ?_
                refine WM_nil ?_
                refine WQ_code ?_
                refine WC_F rfl ?_
                refine WC_skip ?_
                refine WQ_code ?_
                refine WC_region ?_
                refine WL_val rfl rfl rfl (R_move rfl rfl) ?_
                refine WL_val rfl rfl rfl (R_add rfl rfl rfl (by omega)) ?_
                refine WL_val rfl rfl rfl (R_assign rfl rfl) ?_
                refine WL_nil ?_
                refine WQ_nextF (⟨y.k + 1, y.b || fBusy who x, y.o⟩) (⟨by dsimp only; omega, by dsimp only; rw [take_next hx, List.any_append, List.any_cons, List.any_nil, Bool.or_false, ← Bool.or_assoc, ← hyb], by first | exact hnx.symm | exact hyo.trans hnx.symm⟩) (by dsimp only; omega) leZ (psZ) rfl (pqZ)
        · have hkl : y.k = r.R.length := by omega
          rw [hkl, List.take_length] at hyb
          rw [hkl] at hyo
          refine WC_exit ?_
          refine WQ_code ?_
          refine WC_seq ?_
          refine WC_seq ?_
          refine WC_region ?_
          refine WL_val rfl rfl rfl (R_move rfl rfl) ?_
          refine WL_nil ?_
          refine WQ_code ?_
          refine WC_if rfl (fun c16 => ?_) (fun c16 => ?_)
          · have hget := rg_busy hm hd (hyb.symm.trans c16)
            refine WC_seq ?_
            refine WC_region ?_
            refine WL_val rfl rfl rfl (R_loadA (vs := [_, _, _, _, _, _, _]) rfl ag58 rfl (mmZ) rfl (atZ)) ?_
            refine WL_val rfl rfl rfl (R_build rfl zv44 pl44 rfl rfl) ?_
            refine WL_do0 rfl rfl (D_store (vs := [_, _, _, _, _, _, _]) rfl Try.sizeOf58 rfl rfl rfl rfl rfl (plZ) (by exact Nat.le_of_ble_eq_true rfl)) ?_
            rintro _ _ rfl
            refine WL_do0 rfl rfl (D_store (vs := [_, _, _]) rfl Try.sizeOf44 rfl rfl rfl rfl rfl (plZ) (by exact Nat.le_of_ble_eq_true rfl)) ?_
            rintro _ _ rfl
            refine WL_val rfl rfl rfl (R_assign rfl rfl) ?_
            refine WL_nil ?_
            refine WQ_code ?_
            refine WC_ret ?_
            refine WQ_ret rfl rfl (.cons (.cell (vs := [_, _, _, _, _, _, _]) rfl ag58 (mmZ) rfl (atZ)) (.cons (.cell (vs := [_, _, _]) rfl ag44 (mmZ) rfl (atZ)) (.cons (.tmp rfl) .nil))) rfl (by
                rw [hget]
                first | exact ⟨_, rfl, rfl, h⟩ | exact ⟨_, rfl, rfl, g3⟩) (pqZ)
          · have hb : r.busy who = false := hyb.symm.trans c16
            refine WC_skip ?_
            refine WQ_code ?_
            refine WC_seq ?_
            refine WC_region ?_
            refine WL_val rfl rfl rfl (R_move rfl rfl) ?_
            refine WL_val rfl rfl rfl (R_fieldAddr rfl fa58_3 rfl) ?_
            refine WL_do0 rfl rfl (D_store (vs := [_]) rfl Try.sizeOf28 rfl rfl rfl rfl rfl (plZ) (by exact Nat.le_of_ble_eq_true rfl)) ?_
            rintro _ _ rfl
            refine WL_nil ?_
            refine WQ_code ?_
            refine WC_seq ?_
            refine WC_seq ?_
            refine WC_region ?_
            refine WL_val rfl rfl rfl (R_move rfl rfl) ?_
            refine WL_val rfl rfl rfl (R_geq rfl rfl rfl) ?_
            refine WL_nil ?_
            refine WQ_code ?_
            refine WC_dec rfl (fun c17 => ?_) (fun c17 => ?_)
            · obtain ⟨j, hj⟩ := optI_pos (o := y.o) (by omega)
              obtain ⟨hjk, z, hz, _⟩ := selK_lt (hyo.symm.trans hj)
              obtain ⟨wc, hwc⟩ := h.c.some_of (by omega)
              have hget := rg_use hm hd hb (hyo.symm.trans hj) hz
              have hwl := withR_len_mem (c := ⟨z.num, 2, 0, 0⟩) ⟨z, List.mem_of_getElem? hz, rfl⟩
              refine WC_seq ?_
              refine WC_region ?_
              refine WL_val rfl rfl rfl (R_fieldAddr rfl fa58_4 rfl) ?_
              refine WL_val rfl rfl rfl (R_load rfl sc54 rfl (mmZ) rfl) ?_
              refine WL_val rfl rfl rfl (R_move rfl rfl) ?_
              refine WL_set (s := 93) (v := .int .i64 (j : Int)) rfl (by rw [hj]; rfl) ?_
              refine WL_val rfl rfl rfl (R_idxO hwc rfl Try.underlying54 Try.sizeOf139 rfl rfl (by omega)) ?_
              refine WL_val rfl rfl rfl (R_fieldAddr rfl fa139_0 rfl) ?_
              refine WL_val rfl rfl rfl (R_loadO (v := .int .i64 z.num) hwc rfl sc3 rfl (mmZ) (fm_get0 encR4 hz (j := 0) (by omega))) ?_
              refine WL_val rfl rfl rfl (R_assign rfl rfl) ?_
              refine WL_nil ?_
              refine WQ_code ?_
              refine WC_seq ?_
              refine WC_region ?_
              refine WL_val rfl rfl rfl (R_loadA (vs := [_, _, _, _, _, _, _]) rfl ag58 rfl (mmZ) rfl (atZ)) ?_
              refine WL_val rfl rfl rfl (R_move rfl rfl) ?_
              refine WL_val rfl rfl rfl (R_build rfl zv139 pl139 rfl rfl) ?_
              refine WL_do rfl rfl rfl (D_call (mwith_ok (h.at_ now) ⟨z.num, 2, 0, 0⟩ (by show (withR r.R _).length ≤ 64; omega)) rfl rfl rfl rfl (pqZ)) ?_
              rintro _ _ ⟨_, ⟨cb3, cc3, ct3, rfl, rfl, g3⟩, rfl⟩
              refine WL_val rfl rfl rfl (R_move rfl rfl) ?_
              refine WL_val rfl rfl rfl (R_move rfl rfl) ?_
              refine WL_val rfl rfl rfl (R_build rfl zv44 pl44 rfl rfl) ?_
              refine WL_do0 rfl rfl (D_store (vs := [_, _, _, _, _, _, _]) rfl Try.sizeOf58 rfl rfl rfl rfl rfl (plZ) (by exact Nat.le_of_ble_eq_true rfl)) ?_
              rintro _ _ rfl
              refine WL_do0 rfl rfl (D_store (vs := [_, _, _]) rfl Try.sizeOf44 rfl rfl rfl rfl rfl (plZ) (by exact Nat.le_of_ble_eq_true rfl)) ?_
              rintro _ _ rfl
              refine WL_val rfl rfl rfl (R_assign rfl rfl) ?_
              refine WL_nil ?_
              refine WQ_code ?_
              refine WC_ret ?_
              refine WQ_ret rfl rfl (.cons (.cell (vs := [_, _, _, _, _, _, _]) rfl ag58 (mmZ) rfl (atZ)) (.cons (.cell (vs := [_, _, _]) rfl ag44 (mmZ) rfl (atZ)) (.cons (.tmp rfl) .nil))) rfl (by
                  rw [hget]
                  first | exact ⟨_, rfl, rfl, h⟩ | exact ⟨_, rfl, rfl, g3⟩) (pqZ)
            · have hj := hyo.symm.trans (optI_neg (by omega))
              refine WC_skip ?_
              refine WQ_code ?_
              refine WC_seq ?_
              refine WC_seq ?_
              refine WC_region ?_
              refine WL_val rfl rfl rfl (R_fieldAddr rfl fa58_4 rfl) ?_
              refine WL_val rfl rfl rfl (R_load rfl sc54 rfl (mmZ) rfl) ?_
              refine WL_val rfl rfl rfl (R_len rfl Try.underlying54 rfl) ?_
              refine WL_val rfl rfl rfl (R_fieldAddr rfl fa58_0 rfl) ?_
              refine WL_val rfl rfl rfl (R_load rfl sc3 rfl (mmZ) rfl) ?_
              refine WL_val rfl rfl rfl (R_lss rfl rfl rfl) ?_
              refine WL_nil ?_
              refine WQ_code ?_
              refine WC_dec rfl (fun c18 => ?_) (fun c18 => ?_)
              · have hget := rg_dial hm hd hb hj (by omega)
                refine WC_seq ?_
                refine WC_region ?_
                refine WL_val rfl rfl rfl (R_loadA (vs := [_, _, _, _, _, _, _]) rfl ag58 rfl (mmZ) rfl (atZ)) ?_
                refine WL_val rfl rfl rfl (R_move rfl rfl) ?_
                refine WL_do rfl rfl rfl (D_call (mdial_ok (h.at_ now) who (show r.R.length < 64 by omega)) rfl rfl rfl rfl (pqZ)) ?_
                rintro _ _ ⟨_, ⟨cb3, cc3, ct3, rfl, rfl, g3⟩, rfl⟩
                refine WL_val rfl rfl rfl (R_move rfl rfl) ?_
                refine WL_val rfl rfl rfl (R_extract rfl rfl rfl) ?_
                refine WL_val rfl rfl rfl (R_extract rfl rfl rfl) ?_
                refine WL_do rfl rfl rfl (D_alloc rfl zv58) ?_
                rintro _ _ ⟨b5, rfl, rfl⟩
                refine WL_do0 rfl rfl (D_store (vs := [_, _, _, _, _, _, _]) rfl Try.sizeOf58 rfl rfl rfl rfl rfl (plZ) (by exact Nat.le_of_ble_eq_true rfl)) ?_
                rintro _ _ rfl
                refine WL_val rfl rfl rfl (R_assign rfl rfl) ?_
                refine WL_nil ?_
                refine WQ_code ?_
                refine WC_seq ?_
                refine WC_region ?_
                refine WL_val rfl rfl rfl (R_loadA (vs := [_, _, _, _, _, _, _]) rfl ag58 rfl (mmZ) rfl (atZ)) ?_
                refine WL_val rfl rfl rfl (R_move rfl rfl) ?_
                refine WL_val rfl rfl rfl (R_move rfl rfl) ?_
                refine WL_val rfl rfl rfl (R_build rfl zv44 pl44 rfl rfl) ?_
                refine WL_do0 rfl rfl (D_store (vs := [_, _, _, _, _, _, _]) rfl Try.sizeOf58 rfl rfl rfl rfl rfl (plZ) (by exact Nat.le_of_ble_eq_true rfl)) ?_
                rintro _ _ rfl
                refine WL_do0 rfl rfl (D_store (vs := [_, _, _]) rfl Try.sizeOf44 rfl rfl rfl rfl rfl (plZ) (by exact Nat.le_of_ble_eq_true rfl)) ?_
                rintro _ _ rfl
                refine WL_val rfl rfl rfl (R_assign rfl rfl) ?_
                refine WL_nil ?_
                refine WQ_code ?_
                refine WC_ret ?_
                refine WQ_ret rfl rfl (.cons (.cell (vs := [_, _, _, _, _, _, _]) rfl ag58 (mmZ) rfl (atZ)) (.cons (.cell (vs := [_, _, _]) rfl ag44 (mmZ) rfl (atZ)) (.cons (.tmp rfl) .nil))) rfl (by
                    rw [hget]
                    first | exact ⟨_, rfl, rfl, h⟩ | exact ⟨_, rfl, rfl, g3⟩) (pqZ)
              · have hget := rg_wait hm hd hb hj (by omega)
                refine WC_none 144 ?_
                refine WC_skip ?_
                refine WQ_code ?_
                refine WC_seq ?_
                refine WC_region ?_
                refine WL_val rfl rfl rfl (R_fieldAddr rfl fa58_5 rfl) ?_
                refine WL_val rfl rfl rfl (R_load rfl sc55 rfl (mmZ) rfl) ?_
                refine WL_do rfl rfl rfl (D_appendO rfl si55 rfl (Own.empty 2) plZ rfl h.q mmZ (encP_one _) (by have := h.ql; omega) (by have := h.ql; omega)) ?_
                rintro _ _ ⟨o8, c8, tl8, rfl, own8, rfl⟩
                rw [Nat.zero_add, List.nil_append] at own8 ⊢
                refine WL_val rfl rfl rfl (R_move rfl rfl) ?_
                refine WL_val rfl rfl rfl (R_move rfl rfl) ?_
                refine WL_val rfl rfl rfl (R_build rfl zv144 pl144 rfl rfl) ?_
                refine WL_do rfl rfl rfl (D_buildSlice rfl si55 rfl rfl rfl) ?_
                rintro _ _ ⟨b6, rfl, rfl⟩
                refine WL_do rfl rfl rfl (D_append rfl si55 rfl (own8) (plZ) rfl (mmZ) ((atZ : At _ 0 [_, _])) (rfl) (rfl) (by omega) (by omega)) ?_
                rintro _ _ ⟨ob7, cap7, tl7, rfl, own7, rfl⟩
                rw [show r.Q.flatMap encP ++ [Value.int .i64 who, .int .u64 (dl : Int)] = ((r.at_ now).wait who dl).Q.flatMap encP from by simp [RS.wait, RS.at_], show r.Q.length + 1 = ((r.at_ now).wait who dl).Q.length from by simp [RS.wait, RS.at_]] at own7 ⊢
                refine WL_val rfl rfl rfl (R_fieldAddr rfl fa58_5 rfl) ?_
                refine WL_do0 rfl rfl (D_store (vs := [_]) rfl Try.sizeOf55 rfl rfl rfl rfl rfl (plZ) (by exact Nat.le_of_ble_eq_true rfl)) ?_
                rintro _ _ rfl
                refine WL_nil ?_
                refine WQ_code ?_
                refine WC_seq ?_
                refine WC_region ?_
                refine WL_val rfl rfl rfl (R_loadA (vs := [_, _, _, _, _, _, _]) rfl ag58 rfl (mmZ) rfl (atZ)) ?_
                refine WL_val rfl rfl rfl (R_move rfl rfl) ?_
                refine WL_val rfl rfl rfl (R_build rfl zv44 pl44 rfl rfl) ?_
                refine WL_do0 rfl rfl (D_store (vs := [_, _, _, _, _, _, _]) rfl Try.sizeOf58 rfl rfl rfl rfl rfl (plZ) (by exact Nat.le_of_ble_eq_true rfl)) ?_
                rintro _ _ rfl
                refine WL_do0 rfl rfl (D_store (vs := [_, _, _]) rfl Try.sizeOf44 rfl rfl rfl rfl rfl (plZ) (by exact Nat.le_of_ble_eq_true rfl)) ?_
                rintro _ _ rfl
                refine WL_val rfl rfl rfl (R_assign rfl rfl) ?_
                refine WL_nil ?_
                refine WQ_code ?_
                refine WC_ret ?_
                refine WQ_ret rfl rfl (.cons (.cell (vs := [_, _, _, _, _, _, _]) rfl ag58 (mmZ) rfl (atZ)) (.cons (.cell (vs := [_, _, _]) rfl ag44 (mmZ) rfl (atZ)) (.cons (.tmp rfl) .nil))) rfl (by
                    rw [hget]
                    first | exact ⟨_, rfl, rfl, h⟩ | exact ⟨_, rfl, rfl, g3⟩ | exact ⟨{ M with qb := ob7, qc := cap7, qtl := tl7 }, rfl, rfl, ⟨h.c, own7, h.e, h.cl, by simp [RS.wait, RS.at_]; omega, h.el, h.op, h.ek⟩⟩) (pqZ)
  · have hg := c1
    refine WL_skip rfl rfl rfl ?_
    refine WL_skip rfl rfl rfl ?_
    refine WL_val rfl rfl rfl (R_pickF rfl rfl rfl) ?_
    refine WL_set (s := 25) (v := .bool (decide (0 ≤ who ∧ who ≤ 1000))) rfl (by first | exact congrArg Value.bool (decide_eq_decide.2 (by omega)) | exact congrArg Value.bool (decide_eq_false (by omega)).symm) ?_
    refine WL_val rfl rfl rfl (R_move rfl rfl) ?_
    refine WL_do rfl rfl rfl (D_call (mwrong_ok h (decide (0 ≤ who ∧ who ≤ 1000)) now) rfl rfl rfl rfl (pqZ)) ?_
    rintro _ _ ⟨_, ⟨rfl, rfl⟩, rfl⟩
    refine WL_val rfl rfl rfl (R_assign rfl rfl) ?_
    refine WL_nil ?_
    refine WQ_code ?_
    refine WC_seq ?_
    refine WC_region ?_
    refine WL_val rfl rfl rfl (R_move rfl rfl) ?_
    refine WL_val rfl rfl rfl (R_neq rfl rfl rfl) ?_
    refine WL_nil ?_
    refine WQ_code ?_
    refine WC_dec rfl (fun c19 => ?_) (fun c19 => ?_)
    · have hget := rg_bad (dl := dl) c19
      refine WC_seq ?_
      refine WC_region ?_
      refine WL_val rfl rfl rfl (R_loadA (vs := [_, _, _, _, _, _, _]) rfl ag58 rfl (mmZ) rfl (atZ)) ?_
      refine WL_val rfl rfl rfl (R_build rfl zv44 pl44 rfl rfl) ?_
      refine WL_val rfl rfl rfl (R_move rfl rfl) ?_
      refine WL_do0 rfl rfl (D_store (vs := [_, _, _, _, _, _, _]) rfl Try.sizeOf58 rfl rfl rfl rfl rfl (plZ) (by exact Nat.le_of_ble_eq_true rfl)) ?_
      rintro _ _ rfl
      refine WL_do0 rfl rfl (D_store (vs := [_, _, _]) rfl Try.sizeOf44 rfl rfl rfl rfl rfl (plZ) (by exact Nat.le_of_ble_eq_true rfl)) ?_
      rintro _ _ rfl
      refine WL_val rfl rfl rfl (R_assign rfl rfl) ?_
      refine WL_nil ?_
      refine WQ_code ?_
      refine WC_ret ?_
      refine WQ_ret rfl rfl (.cons (.cell (vs := [_, _, _, _, _, _, _]) rfl ag58 (mmZ) rfl (atZ)) (.cons (.cell (vs := [_, _, _]) rfl ag44 (mmZ) rfl (atZ)) (.cons (.tmp rfl) .nil))) rfl (by
          rw [hget]
          first | exact ⟨_, rfl, rfl, h⟩ | exact ⟨_, rfl, rfl, g3⟩) (pqZ)
    · have hm := c19
      refine WC_skip ?_
      refine WQ_code ?_
      refine WC_seq ?_
      refine WC_seq ?_
      refine WC_region ?_
      refine WL_val rfl rfl rfl (R_move rfl rfl) ?_
      refine WL_val rfl rfl rfl (R_move rfl rfl) ?_
      refine WL_val rfl rfl rfl (R_leq rfl rfl rfl) ?_
      refine WL_nil ?_
      refine WQ_code ?_
      refine WC_dec rfl (fun c20 => ?_) (fun c20 => ?_)
      · have hget := rg_late hm (show dl ≤ now by omega)
        refine WC_seq ?_
        refine WC_region ?_
        refine WL_val rfl rfl rfl (R_loadA (vs := [_, _, _, _, _, _, _]) rfl ag58 rfl (mmZ) rfl (atZ)) ?_
        refine WL_val rfl rfl rfl (R_build rfl zv44 pl44 rfl rfl) ?_
        refine WL_do0 rfl rfl (D_store (vs := [_, _, _, _, _, _, _]) rfl Try.sizeOf58 rfl rfl rfl rfl rfl (plZ) (by exact Nat.le_of_ble_eq_true rfl)) ?_
        rintro _ _ rfl
        refine WL_do0 rfl rfl (D_store (vs := [_, _, _]) rfl Try.sizeOf44 rfl rfl rfl rfl rfl (plZ) (by exact Nat.le_of_ble_eq_true rfl)) ?_
        rintro _ _ rfl
        refine WL_val rfl rfl rfl (R_assign rfl rfl) ?_
        refine WL_nil ?_
        refine WQ_code ?_
        refine WC_ret ?_
        refine WQ_ret rfl rfl (.cons (.cell (vs := [_, _, _, _, _, _, _]) rfl ag58 (mmZ) rfl (atZ)) (.cons (.cell (vs := [_, _, _]) rfl ag44 (mmZ) rfl (atZ)) (.cons (.tmp rfl) .nil))) rfl (by
            rw [hget]
            first | exact ⟨_, rfl, rfl, h⟩ | exact ⟨_, rfl, rfl, g3⟩) (pqZ)
      · have hd : ¬ dl ≤ now := by omega
        refine WC_skip ?_
        refine WQ_code ?_
        refine WC_seq ?_
        refine WC_region ?_
        refine WL_val rfl rfl rfl (R_loadA (vs := [_, _, _, _, _, _, _]) rfl ag58 rfl (mmZ) rfl (atZ)) ?_
        refine WL_val rfl rfl rfl (R_move rfl rfl) ?_
        refine WL_do rfl rfl rfl (D_call (mwaits_ok h who) rfl rfl rfl rfl (pqZ)) ?_
        rintro _ _ ⟨_, ⟨rfl, rfl⟩, rfl⟩
        refine WL_val rfl rfl rfl (R_assign rfl rfl) ?_
        refine WL_nil ?_
        refine WQ_code ?_
        refine WC_seq ?_
        refine WC_region ?_
        refine WL_val rfl rfl rfl (R_assign rfl rfl) ?_
        refine WL_nil ?_
        refine WQ_code ?_
        refine WC_seq ?_
        refine WC_seq ?_
        refine WC_region ?_
        refine WL_val rfl rfl rfl (R_assign rfl rfl) ?_
        refine WL_nil ?_
        refine WQ_code ?_
        refine WC_block ?_
        refine WC_loopF (G := GtW) [12, 13, 14, 15, 41, 42, 43, 44, 45, 46, 47, 48, 49, 50, 51, 52, 53, 54, 55, 56, 57, 58, 59, 60, 61, 62, 63, 64, 65, 66, 67, 68, 69, 70, 71, 72, 73, 74, 75, 76, 77, 78, 79, 80, 81, 82, 83] (fun y => y.k ≤ r.R.length ∧ y.b = (r.waits who || (r.R.take y.k).any (fBusy who)) ∧ y.o = selK pIdle qLate r.R y.k) (fun y => [(14, .int .i64 (y.k : Int)), (12, .bool y.b), (13, .int .i64 (optI y.o))]) (fun y => []) (fun y => r.R.length - y.k) (⟨0, r.waits who, none⟩) (⟨Nat.zero_le _, by simp, rfl⟩) leZ (pqZ) ?_
        rintro y ⟨hk, hyb, hyo⟩
        refine WC_seq ?_
        refine WC_seq ?_
        refine WC_region ?_
        refine WL_val rfl rfl rfl (R_move rfl rfl) ?_
        refine WL_val rfl rfl rfl (R_fieldAddr rfl fa58_4 rfl) ?_
        refine WL_val rfl rfl rfl (R_load rfl sc54 rfl (mmZ) rfl) ?_
        refine WL_val rfl rfl rfl (R_len rfl Try.underlying54 rfl) ?_
        refine WL_val rfl rfl rfl (R_lss rfl rfl rfl) ?_
        refine WL_nil ?_
        refine WQ_code ?_
        refine WC_dec rfl (fun c21 => ?_) (fun c21 => ?_)
        · refine WC_skip ?_
          refine WQ_code ?_
          refine WC_seq ?_
          refine WC_block ?_
          refine WC_seq ?_
          refine WC_region ?_
          obtain ⟨x, hx⟩ := getE (T := r.R) (i := y.k) (by omega)
          obtain ⟨wc, hwc⟩ := h.c.some_of (by omega)
          refine WL_val rfl rfl rfl (R_fieldAddr rfl fa58_4 rfl) ?_
          refine WL_val rfl rfl rfl (R_load rfl sc54 rfl (mmZ) rfl) ?_
          refine WL_val rfl rfl rfl (R_move rfl rfl) ?_
          refine WL_val rfl rfl rfl (R_idxO hwc rfl Try.underlying54 Try.sizeOf139 rfl rfl (by omega)) ?_
          refine WL_val rfl rfl rfl (R_loadAO (vs := encR x) hwc rfl ag139 rfl (mmZ) rfl (fm_at0 encR4 hx (j := 0) (vs := encR x) (fun j v hj => by rw [Nat.zero_add]; exact hj) (Nat.le_refl _))) ?_
          refine WL_do rfl rfl rfl (D_alloc rfl zv139) ?_
          rintro _ _ ⟨b8, rfl, rfl⟩
          refine WL_do0 rfl rfl (D_store (vs := [_, _, _, _]) rfl Try.sizeOf139 rfl rfl rfl rfl rfl (plZ) (by exact Nat.le_of_ble_eq_true rfl)) ?_
          rintro _ _ rfl
          refine WL_nil ?_
          refine WQ_code ?_
          refine WC_seq ?_
          refine WC_region ?_
          refine WL_val rfl rfl rfl (R_move rfl rfl) ?_
          refine WL_val rfl rfl rfl (R_move rfl rfl) ?_
          refine WL_split (s := 54) rfl (fun c22 => ?_) (fun c22 => ?_)
          · have hg1 : y.b = true := c22
            refine WL_skip rfl rfl rfl ?_
            refine WL_skip rfl rfl rfl ?_
            refine WL_skip rfl rfl rfl ?_
            refine WL_skip rfl rfl rfl ?_
            refine WL_skip rfl rfl rfl ?_
            refine WL_skip rfl rfl rfl ?_
            refine WL_skip rfl rfl rfl ?_
            refine WL_skip rfl rfl rfl ?_
            refine WL_skip rfl rfl rfl ?_
            refine WL_val rfl rfl rfl (R_pickT rfl rfl rfl) ?_
            refine WL_set (s := 64) (v := .bool (y.b || fBusy who x)) rfl (by first | (simp [hg1, fBusy, hs1]; done) | (simp [hg1]; done)) ?_
            refine WL_val rfl rfl rfl (R_assign rfl rfl) ?_
            refine WL_nil ?_
            refine WQ_code ?_
            refine WC_seq ?_
            refine WC_draw _ [(0, true), (1, true), (2, true), (3, true), (4, true), (5, true), (6, true), (7, true), (8, true), (9, true), (10, true), (11, true), (12, true), (13, true), (14, true), (15, true), (16, true), (17, true)] followsMixed rfl rfl (by kernel_rfl) .all ?_
            refine WM_val rfl rfl rfl rfl (R_fieldAddr rfl fa139_1 rfl) ?_
            refine WM_val rfl rfl rfl rfl (R_load rfl sc3 rfl (mmZ) rfl) ?_
            refine WM_val rfl rfl rfl rfl (R_eql rfl rfl rfl) ?_
            refine WM_val rfl rfl rfl rfl (R_move rfl rfl) ?_
            refine WM_splitD (s := 68) rfl (fun c23 => ?_) (fun c23 => ?_)
            · have hs3 : pIdle x = true := decide_eq_true c23
              refine WM_val rfl rfl rfl rfl (R_move rfl rfl) ?_
              refine WM_val rfl rfl rfl rfl (R_lss rfl rfl rfl) ?_
              refine WM_val rfl rfl rfl rfl (R_move rfl rfl) ?_
              refine WM_splitD (s := 71) rfl (fun c24 => ?_) (fun c24 => ?_)
              · have hnx := selK_yes (p := pIdle) (q := qLate) hx hs3 (hyo.symm.trans (optI_neg c24))
                refine WM_skip rfl rfl rfl rfl ?_
                refine WM_skip rfl rfl rfl rfl ?_
                refine WM_skip rfl rfl rfl rfl ?_
                refine WM_skip rfl rfl rfl rfl ?_
                refine WM_skip rfl rfl rfl rfl ?_
                refine WM_skip rfl rfl rfl rfl ?_
                refine WM_skip rfl rfl rfl rfl ?_
                refine WM_skip rfl rfl rfl rfl ?_
                refine WM_skip rfl rfl rfl rfl ?_
                refine WM_val rfl rfl rfl rfl (R_pickT rfl rfl rfl) ?_
                refine WM_val rfl rfl rfl rfl (R_pickT rfl rfl rfl) ?_
                refine WM_nil ?_
                refine WQ_code ?_
                refine WC_T rfl ?_
                refine WC_region ?_
                refine WL_val rfl rfl rfl (R_move rfl rfl) ?_
                refine WL_val rfl rfl rfl (R_assign rfl rfl) ?_
                refine WL_nil ?_
                refine WQ_code ?_
                refine WC_region ?_
                refine WL_val rfl rfl rfl (R_move rfl rfl) ?_
                refine WL_val rfl rfl rfl (R_add rfl rfl rfl (by omega)) ?_
                refine WL_val rfl rfl rfl (R_assign rfl rfl) ?_
                refine WL_nil ?_
                refine WQ_nextF (⟨y.k + 1, y.b || fBusy who x, some y.k⟩) (⟨by dsimp only; omega, by dsimp only; rw [take_next hx, List.any_append, List.any_cons, List.any_nil, Bool.or_false, ← Bool.or_assoc, ← hyb], by first | exact hnx.symm | exact hyo.trans hnx.symm⟩) (by dsimp only; omega) leZ (psZ) rfl (pqZ)
              · obtain ⟨j, hj⟩ := optI_pos c24
                obtain ⟨hjk, z, hz, _⟩ := selK_lt (hyo.symm.trans hj)
                refine WM_val rfl rfl rfl rfl (R_fieldAddr rfl fa139_3 rfl) ?_
                refine WM_val rfl rfl rfl rfl (R_load rfl sc28 rfl (mmZ) rfl) ?_
                refine WM_val rfl rfl rfl rfl (R_fieldAddr rfl fa58_4 rfl) ?_
                refine WM_val rfl rfl rfl rfl (R_load rfl sc54 rfl (mmZ) rfl) ?_
                refine WM_val rfl rfl rfl rfl (R_move rfl rfl) ?_
                refine WM_set (s := 76) (v := .int .i64 (j : Int)) rfl (by rw [hj]; rfl) ?_
                refine WM_val rfl rfl rfl rfl (R_idxO hwc rfl Try.underlying54 Try.sizeOf139 rfl rfl (by omega)) ?_
                refine WM_val rfl rfl rfl rfl (R_fieldAddr rfl fa139_3 rfl) ?_
                refine WM_val rfl rfl rfl rfl (R_loadO (v := .int .u64 (z.since : Int)) hwc rfl sc28 rfl (mmZ) (fm_get0 encR4 hz (j := 3) (by omega))) ?_
                refine WM_val rfl rfl rfl rfl (R_geq rfl rfl rfl) ?_
                refine WM_val rfl rfl rfl rfl (R_pickF rfl rfl rfl) ?_
                refine WM_val rfl rfl rfl rfl (R_pickT rfl rfl rfl) ?_
                refine WM_nil ?_
                refine WQ_code ?_
                refine WC_dec rfl (fun c25 => ?_) (fun c25 => ?_)
                · have hnx := selK_yes2 (p := pIdle) (q := qLate) hx hs3 (hyo.symm.trans hj) hz (decide_eq_true (by omega))
                  refine WC_region ?_
                  refine WL_val rfl rfl rfl (R_move rfl rfl) ?_
                  refine WL_val rfl rfl rfl (R_assign rfl rfl) ?_
                  refine WL_nil ?_
                  refine WQ_code ?_
                  refine WC_region ?_
                  refine WL_val rfl rfl rfl (R_move rfl rfl) ?_
                  refine WL_val rfl rfl rfl (R_add rfl rfl rfl (by omega)) ?_
                  refine WL_val rfl rfl rfl (R_assign rfl rfl) ?_
                  refine WL_nil ?_
                  refine WQ_nextF (⟨y.k + 1, y.b || fBusy who x, some y.k⟩) (⟨by dsimp only; omega, by dsimp only; rw [take_next hx, List.any_append, List.any_cons, List.any_nil, Bool.or_false, ← Bool.or_assoc, ← hyb], by first | exact hnx.symm | exact hyo.trans hnx.symm⟩) (by dsimp only; omega) leZ (psZ) rfl (pqZ)
                · have hnx := selK_no2 (p := pIdle) (q := qLate) hx (hyo.symm.trans hj) hz (decide_eq_false (by omega))
                  refine WC_skip ?_
                  refine WQ_code ?_
                  refine WC_region ?_
                  refine WL_val rfl rfl rfl (R_move rfl rfl) ?_
                  refine WL_val rfl rfl rfl (R_add rfl rfl rfl (by omega)) ?_
                  refine WL_val rfl rfl rfl (R_assign rfl rfl) ?_
                  refine WL_nil ?_
                  refine WQ_nextF (⟨y.k + 1, y.b || fBusy who x, y.o⟩) (⟨by dsimp only; omega, by dsimp only; rw [take_next hx, List.any_append, List.any_cons, List.any_nil, Bool.or_false, ← Bool.or_assoc, ← hyb], by first | exact hnx.symm | exact hyo.trans hnx.symm⟩) (by dsimp only; omega) leZ (psZ) rfl (pqZ)
            · have hnx := selK_no (p := pIdle) (q := qLate) hx (decide_eq_false c23)
              refine WM_skip rfl rfl rfl rfl ?_
              refine WM_skip rfl rfl rfl rfl ?_
              refine WM_skip rfl rfl rfl rfl ?_
              refine WM_skip rfl rfl rfl rfl ?_
              refine WM_skip rfl rfl rfl rfl ?_
              refine WM_skip rfl rfl rfl rfl ?_
              refine WM_skip rfl rfl rfl rfl ?_
              refine WM_skip rfl rfl rfl rfl ?_
              refine WM_skip rfl rfl rfl rfl ?_
              refine WM_skip rfl rfl rfl rfl ?_
              refine WM_skip rfl rfl rfl rfl ?_
              refine WM_skip rfl rfl rfl rfl ?_
              refine WM_skip rfl rfl rfl rfl ?_
              refine WM_val rfl rfl rfl rfl (R_pickF rfl rfl rfl) ?_
              refine WM_nil ?_
              refine WQ_code ?_
              refine WC_F rfl ?_
              refine WC_skip ?_
              refine WQ_code ?_
              refine WC_region ?_
              refine WL_val rfl rfl rfl (R_move rfl rfl) ?_
              refine WL_val rfl rfl rfl (R_add rfl rfl rfl (by omega)) ?_
              refine WL_val rfl rfl rfl (R_assign rfl rfl) ?_
              refine WL_nil ?_
              refine WQ_nextF (⟨y.k + 1, y.b || fBusy who x, y.o⟩) (⟨by dsimp only; omega, by dsimp only; rw [take_next hx, List.any_append, List.any_cons, List.any_nil, Bool.or_false, ← Bool.or_assoc, ← hyb], by first | exact hnx.symm | exact hyo.trans hnx.symm⟩) (by dsimp only; omega) leZ (psZ) rfl (pqZ)
          · have hg1 : y.b = false := c22
            refine WL_val rfl rfl rfl (R_fieldAddr rfl fa139_1 rfl) ?_
            refine WL_val rfl rfl rfl (R_load rfl sc3 rfl (mmZ) rfl) ?_
            refine WL_val rfl rfl rfl (R_eql rfl rfl rfl) ?_
            refine WL_val rfl rfl rfl (R_move rfl rfl) ?_
            refine WL_splitD (s := 58) rfl (fun c26 => ?_) (fun c26 => ?_)
            · have hs1 : x.st = 1 := c26
              refine WL_val rfl rfl rfl (R_fieldAddr rfl fa139_2 rfl) ?_
              refine WL_val rfl rfl rfl (R_load rfl sc3 rfl (mmZ) rfl) ?_
              refine WL_val rfl rfl rfl (R_move rfl rfl) ?_
              refine WL_val rfl rfl rfl (R_eql rfl rfl rfl) ?_
              refine WL_val rfl rfl rfl (R_pickT rfl rfl rfl) ?_
              refine WL_val rfl rfl rfl (R_pickF rfl rfl rfl) ?_
              refine WL_set (s := 64) (v := .bool (y.b || fBusy who x)) rfl (by first | (simp [hg1, fBusy, hs1]; done) | (simp [hg1]; done)) ?_
              refine WL_val rfl rfl rfl (R_assign rfl rfl) ?_
              refine WL_nil ?_
              refine WQ_code ?_
              refine WC_seq ?_
              refine WC_draw _ [(0, true), (1, true), (2, true), (3, true), (4, true), (5, true), (6, true), (7, true), (8, true), (9, true), (10, true), (11, true), (12, true), (13, true), (14, true), (15, true), (16, true), (17, true)] followsMixed rfl rfl (by kernel_rfl) .all ?_
              refine WM_val rfl rfl rfl rfl (R_fieldAddr rfl fa139_1 rfl) ?_
              refine WM_val rfl rfl rfl rfl (R_load rfl sc3 rfl (mmZ) rfl) ?_
              refine WM_val rfl rfl rfl rfl (R_eql rfl rfl rfl) ?_
              refine WM_val rfl rfl rfl rfl (R_move rfl rfl) ?_
              refine WM_splitD (s := 68) rfl (fun c27 => ?_) (fun c27 => ?_)
              · have hs3 : pIdle x = true := decide_eq_true c27
                refine WM_val rfl rfl rfl rfl (R_move rfl rfl) ?_
                refine WM_val rfl rfl rfl rfl (R_lss rfl rfl rfl) ?_
                refine WM_val rfl rfl rfl rfl (R_move rfl rfl) ?_
                refine WM_splitD (s := 71) rfl (fun c28 => ?_) (fun c28 => ?_)
                · have hnx := selK_yes (p := pIdle) (q := qLate) hx hs3 (hyo.symm.trans (optI_neg c28))
                  refine WM_skip rfl rfl rfl rfl ?_
                  refine WM_skip rfl rfl rfl rfl ?_
                  refine WM_skip rfl rfl rfl rfl ?_
                  refine WM_skip rfl rfl rfl rfl ?_
                  refine WM_skip rfl rfl rfl rfl ?_
                  refine WM_skip rfl rfl rfl rfl ?_
                  refine WM_skip rfl rfl rfl rfl ?_
                  refine WM_skip rfl rfl rfl rfl ?_
                  refine WM_skip rfl rfl rfl rfl ?_
                  refine WM_val rfl rfl rfl rfl (R_pickT rfl rfl rfl) ?_
                  refine WM_val rfl rfl rfl rfl (R_pickT rfl rfl rfl) ?_
                  refine WM_nil ?_
                  refine WQ_code ?_
                  refine WC_T rfl ?_
                  refine WC_region ?_
                  refine WL_val rfl rfl rfl (R_move rfl rfl) ?_
                  refine WL_val rfl rfl rfl (R_assign rfl rfl) ?_
                  refine WL_nil ?_
                  refine WQ_code ?_
                  refine WC_region ?_
                  refine WL_val rfl rfl rfl (R_move rfl rfl) ?_
                  refine WL_val rfl rfl rfl (R_add rfl rfl rfl (by omega)) ?_
                  refine WL_val rfl rfl rfl (R_assign rfl rfl) ?_
                  refine WL_nil ?_
                  refine WQ_nextF (⟨y.k + 1, y.b || fBusy who x, some y.k⟩) (⟨by dsimp only; omega, by dsimp only; rw [take_next hx, List.any_append, List.any_cons, List.any_nil, Bool.or_false, ← Bool.or_assoc, ← hyb], by first | exact hnx.symm | exact hyo.trans hnx.symm⟩) (by dsimp only; omega) leZ (psZ) rfl (pqZ)
                · obtain ⟨j, hj⟩ := optI_pos c28
                  obtain ⟨hjk, z, hz, _⟩ := selK_lt (hyo.symm.trans hj)
                  refine WM_val rfl rfl rfl rfl (R_fieldAddr rfl fa139_3 rfl) ?_
                  refine WM_val rfl rfl rfl rfl (R_load rfl sc28 rfl (mmZ) rfl) ?_
                  refine WM_val rfl rfl rfl rfl (R_fieldAddr rfl fa58_4 rfl) ?_
                  refine WM_val rfl rfl rfl rfl (R_load rfl sc54 rfl (mmZ) rfl) ?_
                  refine WM_val rfl rfl rfl rfl (R_move rfl rfl) ?_
                  refine WM_set (s := 76) (v := .int .i64 (j : Int)) rfl (by rw [hj]; rfl) ?_
                  refine WM_val rfl rfl rfl rfl (R_idxO hwc rfl Try.underlying54 Try.sizeOf139 rfl rfl (by omega)) ?_
                  refine WM_val rfl rfl rfl rfl (R_fieldAddr rfl fa139_3 rfl) ?_
                  refine WM_val rfl rfl rfl rfl (R_loadO (v := .int .u64 (z.since : Int)) hwc rfl sc28 rfl (mmZ) (fm_get0 encR4 hz (j := 3) (by omega))) ?_
                  refine WM_val rfl rfl rfl rfl (R_geq rfl rfl rfl) ?_
                  refine WM_val rfl rfl rfl rfl (R_pickF rfl rfl rfl) ?_
                  refine WM_val rfl rfl rfl rfl (R_pickT rfl rfl rfl) ?_
                  refine WM_nil ?_
                  refine WQ_code ?_
                  refine WC_dec rfl (fun c29 => ?_) (fun c29 => ?_)
                  · have hnx := selK_yes2 (p := pIdle) (q := qLate) hx hs3 (hyo.symm.trans hj) hz (decide_eq_true (by omega))
                    refine WC_region ?_
                    refine WL_val rfl rfl rfl (R_move rfl rfl) ?_
                    refine WL_val rfl rfl rfl (R_assign rfl rfl) ?_
                    refine WL_nil ?_
                    refine WQ_code ?_
                    refine WC_region ?_
                    refine WL_val rfl rfl rfl (R_move rfl rfl) ?_
                    refine WL_val rfl rfl rfl (R_add rfl rfl rfl (by omega)) ?_
                    refine WL_val rfl rfl rfl (R_assign rfl rfl) ?_
                    refine WL_nil ?_
                    refine WQ_nextF (⟨y.k + 1, y.b || fBusy who x, some y.k⟩) (⟨by dsimp only; omega, by dsimp only; rw [take_next hx, List.any_append, List.any_cons, List.any_nil, Bool.or_false, ← Bool.or_assoc, ← hyb], by first | exact hnx.symm | exact hyo.trans hnx.symm⟩) (by dsimp only; omega) leZ (psZ) rfl (pqZ)
                  · have hnx := selK_no2 (p := pIdle) (q := qLate) hx (hyo.symm.trans hj) hz (decide_eq_false (by omega))
                    refine WC_skip ?_
                    refine WQ_code ?_
                    refine WC_region ?_
                    refine WL_val rfl rfl rfl (R_move rfl rfl) ?_
                    refine WL_val rfl rfl rfl (R_add rfl rfl rfl (by omega)) ?_
                    refine WL_val rfl rfl rfl (R_assign rfl rfl) ?_
                    refine WL_nil ?_
                    refine WQ_nextF (⟨y.k + 1, y.b || fBusy who x, y.o⟩) (⟨by dsimp only; omega, by dsimp only; rw [take_next hx, List.any_append, List.any_cons, List.any_nil, Bool.or_false, ← Bool.or_assoc, ← hyb], by first | exact hnx.symm | exact hyo.trans hnx.symm⟩) (by dsimp only; omega) leZ (psZ) rfl (pqZ)
              · have hnx := selK_no (p := pIdle) (q := qLate) hx (decide_eq_false c27)
                refine WM_skip rfl rfl rfl rfl ?_
                refine WM_skip rfl rfl rfl rfl ?_
                refine WM_skip rfl rfl rfl rfl ?_
                refine WM_skip rfl rfl rfl rfl ?_
                refine WM_skip rfl rfl rfl rfl ?_
                refine WM_skip rfl rfl rfl rfl ?_
                refine WM_skip rfl rfl rfl rfl ?_
                refine WM_skip rfl rfl rfl rfl ?_
                refine WM_skip rfl rfl rfl rfl ?_
                refine WM_skip rfl rfl rfl rfl ?_
                refine WM_skip rfl rfl rfl rfl ?_
                refine WM_skip rfl rfl rfl rfl ?_
                refine WM_skip rfl rfl rfl rfl ?_
                refine WM_val rfl rfl rfl rfl (R_pickF rfl rfl rfl) ?_
                refine WM_nil ?_
                refine WQ_code ?_
                refine WC_F rfl ?_
                refine WC_skip ?_
                refine WQ_code ?_
                refine WC_region ?_
                refine WL_val rfl rfl rfl (R_move rfl rfl) ?_
                refine WL_val rfl rfl rfl (R_add rfl rfl rfl (by omega)) ?_
                refine WL_val rfl rfl rfl (R_assign rfl rfl) ?_
                refine WL_nil ?_
                refine WQ_nextF (⟨y.k + 1, y.b || fBusy who x, y.o⟩) (⟨by dsimp only; omega, by dsimp only; rw [take_next hx, List.any_append, List.any_cons, List.any_nil, Bool.or_false, ← Bool.or_assoc, ← hyb], by first | exact hnx.symm | exact hyo.trans hnx.symm⟩) (by dsimp only; omega) leZ (psZ) rfl (pqZ)
            · have hs1 : ¬ x.st = 1 := c26
              refine WL_skip rfl rfl rfl ?_
              refine WL_skip rfl rfl rfl ?_
              refine WL_skip rfl rfl rfl ?_
              refine WL_skip rfl rfl rfl ?_
              refine WL_val rfl rfl rfl (R_pickF rfl rfl rfl) ?_
              refine WL_val rfl rfl rfl (R_pickF rfl rfl rfl) ?_
              refine WL_set (s := 64) (v := .bool (y.b || fBusy who x)) rfl (by first | (simp [hg1, fBusy, hs1]; done) | (simp [hg1]; done)) ?_
              refine WL_val rfl rfl rfl (R_assign rfl rfl) ?_
              refine WL_nil ?_
              refine WQ_code ?_
              refine WC_seq ?_
              refine WC_draw _ [(0, true), (1, true), (2, true), (3, true), (4, true), (5, true), (6, true), (7, true), (8, true), (9, true), (10, true), (11, true), (12, true), (13, true), (14, true), (15, true), (16, true), (17, true)] followsMixed rfl rfl (by kernel_rfl) .all ?_
              refine WM_val rfl rfl rfl rfl (R_fieldAddr rfl fa139_1 rfl) ?_
              refine WM_val rfl rfl rfl rfl (R_load rfl sc3 rfl (mmZ) rfl) ?_
              refine WM_val rfl rfl rfl rfl (R_eql rfl rfl rfl) ?_
              refine WM_val rfl rfl rfl rfl (R_move rfl rfl) ?_
              refine WM_splitD (s := 68) rfl (fun c30 => ?_) (fun c30 => ?_)
              · have hs3 : pIdle x = true := decide_eq_true c30
                refine WM_val rfl rfl rfl rfl (R_move rfl rfl) ?_
                refine WM_val rfl rfl rfl rfl (R_lss rfl rfl rfl) ?_
                refine WM_val rfl rfl rfl rfl (R_move rfl rfl) ?_
                refine WM_splitD (s := 71) rfl (fun c31 => ?_) (fun c31 => ?_)
                · have hnx := selK_yes (p := pIdle) (q := qLate) hx hs3 (hyo.symm.trans (optI_neg c31))
                  refine WM_skip rfl rfl rfl rfl ?_
                  refine WM_skip rfl rfl rfl rfl ?_
                  refine WM_skip rfl rfl rfl rfl ?_
                  refine WM_skip rfl rfl rfl rfl ?_
                  refine WM_skip rfl rfl rfl rfl ?_
                  refine WM_skip rfl rfl rfl rfl ?_
                  refine WM_skip rfl rfl rfl rfl ?_
                  refine WM_skip rfl rfl rfl rfl ?_
                  refine WM_skip rfl rfl rfl rfl ?_
                  refine WM_val rfl rfl rfl rfl (R_pickT rfl rfl rfl) ?_
                  refine WM_val rfl rfl rfl rfl (R_pickT rfl rfl rfl) ?_
                  refine WM_nil ?_
                  refine WQ_code ?_
                  refine WC_T rfl ?_
                  refine WC_region ?_
                  refine WL_val rfl rfl rfl (R_move rfl rfl) ?_
                  refine WL_val rfl rfl rfl (R_assign rfl rfl) ?_
                  refine WL_nil ?_
                  refine WQ_code ?_
                  refine WC_region ?_
                  refine WL_val rfl rfl rfl (R_move rfl rfl) ?_
                  refine WL_val rfl rfl rfl (R_add rfl rfl rfl (by omega)) ?_
                  refine WL_val rfl rfl rfl (R_assign rfl rfl) ?_
                  refine WL_nil ?_
                  refine WQ_nextF (⟨y.k + 1, y.b || fBusy who x, some y.k⟩) (⟨by dsimp only; omega, by dsimp only; rw [take_next hx, List.any_append, List.any_cons, List.any_nil, Bool.or_false, ← Bool.or_assoc, ← hyb], by first | exact hnx.symm | exact hyo.trans hnx.symm⟩) (by dsimp only; omega) leZ (psZ) rfl (pqZ)
                · obtain ⟨j, hj⟩ := optI_pos c31
                  obtain ⟨hjk, z, hz, _⟩ := selK_lt (hyo.symm.trans hj)
                  refine WM_val rfl rfl rfl rfl (R_fieldAddr rfl fa139_3 rfl) ?_
                  refine WM_val rfl rfl rfl rfl (R_load rfl sc28 rfl (mmZ) rfl) ?_
                  refine WM_val rfl rfl rfl rfl (R_fieldAddr rfl fa58_4 rfl) ?_
                  refine WM_val rfl rfl rfl rfl (R_load rfl sc54 rfl (mmZ) rfl) ?_
                  refine WM_val rfl rfl rfl rfl (R_move rfl rfl) ?_
                  refine WM_set (s := 76) (v := .int .i64 (j : Int)) rfl (by rw [hj]; rfl) ?_
                  refine WM_val rfl rfl rfl rfl (R_idxO hwc rfl Try.underlying54 Try.sizeOf139 rfl rfl (by omega)) ?_
                  refine WM_val rfl rfl rfl rfl (R_fieldAddr rfl fa139_3 rfl) ?_
                  refine WM_val rfl rfl rfl rfl (R_loadO (v := .int .u64 (z.since : Int)) hwc rfl sc28 rfl (mmZ) (fm_get0 encR4 hz (j := 3) (by omega))) ?_
                  refine WM_val rfl rfl rfl rfl (R_geq rfl rfl rfl) ?_
                  refine WM_val rfl rfl rfl rfl (R_pickF rfl rfl rfl) ?_
                  refine WM_val rfl rfl rfl rfl (R_pickT rfl rfl rfl) ?_
                  refine WM_nil ?_
                  refine WQ_code ?_
                  refine WC_dec rfl (fun c32 => ?_) (fun c32 => ?_)
                  · have hnx := selK_yes2 (p := pIdle) (q := qLate) hx hs3 (hyo.symm.trans hj) hz (decide_eq_true (by omega))
                    refine WC_region ?_
                    refine WL_val rfl rfl rfl (R_move rfl rfl) ?_
                    refine WL_val rfl rfl rfl (R_assign rfl rfl) ?_
                    refine WL_nil ?_
                    refine WQ_code ?_
                    refine WC_region ?_
                    refine WL_val rfl rfl rfl (R_move rfl rfl) ?_
                    refine WL_val rfl rfl rfl (R_add rfl rfl rfl (by omega)) ?_
                    refine WL_val rfl rfl rfl (R_assign rfl rfl) ?_
                    refine WL_nil ?_
                    refine WQ_nextF (⟨y.k + 1, y.b || fBusy who x, some y.k⟩) (⟨by dsimp only; omega, by dsimp only; rw [take_next hx, List.any_append, List.any_cons, List.any_nil, Bool.or_false, ← Bool.or_assoc, ← hyb], by first | exact hnx.symm | exact hyo.trans hnx.symm⟩) (by dsimp only; omega) leZ (psZ) rfl (pqZ)
                  · have hnx := selK_no2 (p := pIdle) (q := qLate) hx (hyo.symm.trans hj) hz (decide_eq_false (by omega))
                    refine WC_skip ?_
                    refine WQ_code ?_
                    refine WC_region ?_
                    refine WL_val rfl rfl rfl (R_move rfl rfl) ?_
                    refine WL_val rfl rfl rfl (R_add rfl rfl rfl (by omega)) ?_
                    refine WL_val rfl rfl rfl (R_assign rfl rfl) ?_
                    refine WL_nil ?_
                    refine WQ_nextF (⟨y.k + 1, y.b || fBusy who x, y.o⟩) (⟨by dsimp only; omega, by dsimp only; rw [take_next hx, List.any_append, List.any_cons, List.any_nil, Bool.or_false, ← Bool.or_assoc, ← hyb], by first | exact hnx.symm | exact hyo.trans hnx.symm⟩) (by dsimp only; omega) leZ (psZ) rfl (pqZ)
              · have hnx := selK_no (p := pIdle) (q := qLate) hx (decide_eq_false c30)
                refine WM_skip rfl rfl rfl rfl ?_
                refine WM_skip rfl rfl rfl rfl ?_
                refine WM_skip rfl rfl rfl rfl ?_
                refine WM_skip rfl rfl rfl rfl ?_
                refine WM_skip rfl rfl rfl rfl ?_
                refine WM_skip rfl rfl rfl rfl ?_
                refine WM_skip rfl rfl rfl rfl ?_
                refine WM_skip rfl rfl rfl rfl ?_
                refine WM_skip rfl rfl rfl rfl ?_
                refine WM_skip rfl rfl rfl rfl ?_
                refine WM_skip rfl rfl rfl rfl ?_
                refine WM_skip rfl rfl rfl rfl ?_
                refine WM_skip rfl rfl rfl rfl ?_
                refine WM_val rfl rfl rfl rfl (R_pickF rfl rfl rfl) ?_
                refine WM_nil ?_
                refine WQ_code ?_
                refine WC_F rfl ?_
                refine WC_skip ?_
                refine WQ_code ?_
                refine WC_region ?_
                refine WL_val rfl rfl rfl (R_move rfl rfl) ?_
                refine WL_val rfl rfl rfl (R_add rfl rfl rfl (by omega)) ?_
                refine WL_val rfl rfl rfl (R_assign rfl rfl) ?_
                refine WL_nil ?_
                refine WQ_nextF (⟨y.k + 1, y.b || fBusy who x, y.o⟩) (⟨by dsimp only; omega, by dsimp only; rw [take_next hx, List.any_append, List.any_cons, List.any_nil, Bool.or_false, ← Bool.or_assoc, ← hyb], by first | exact hnx.symm | exact hyo.trans hnx.symm⟩) (by dsimp only; omega) leZ (psZ) rfl (pqZ)
        · have hkl : y.k = r.R.length := by omega
          rw [hkl, List.take_length] at hyb
          rw [hkl] at hyo
          refine WC_exit ?_
          refine WQ_code ?_
          refine WC_seq ?_
          refine WC_seq ?_
          refine WC_region ?_
          refine WL_val rfl rfl rfl (R_move rfl rfl) ?_
          refine WL_nil ?_
          refine WQ_code ?_
          refine WC_if rfl (fun c33 => ?_) (fun c33 => ?_)
          · have hget := rg_busy hm hd (hyb.symm.trans c33)
            refine WC_seq ?_
            refine WC_region ?_
            refine WL_val rfl rfl rfl (R_loadA (vs := [_, _, _, _, _, _, _]) rfl ag58 rfl (mmZ) rfl (atZ)) ?_
            refine WL_val rfl rfl rfl (R_build rfl zv44 pl44 rfl rfl) ?_
            refine WL_do0 rfl rfl (D_store (vs := [_, _, _, _, _, _, _]) rfl Try.sizeOf58 rfl rfl rfl rfl rfl (plZ) (by exact Nat.le_of_ble_eq_true rfl)) ?_
            rintro _ _ rfl
            refine WL_do0 rfl rfl (D_store (vs := [_, _, _]) rfl Try.sizeOf44 rfl rfl rfl rfl rfl (plZ) (by exact Nat.le_of_ble_eq_true rfl)) ?_
            rintro _ _ rfl
            refine WL_val rfl rfl rfl (R_assign rfl rfl) ?_
            refine WL_nil ?_
            refine WQ_code ?_
            refine WC_ret ?_
            refine WQ_ret rfl rfl (.cons (.cell (vs := [_, _, _, _, _, _, _]) rfl ag58 (mmZ) rfl (atZ)) (.cons (.cell (vs := [_, _, _]) rfl ag44 (mmZ) rfl (atZ)) (.cons (.tmp rfl) .nil))) rfl (by
                rw [hget]
                first | exact ⟨_, rfl, rfl, h⟩ | exact ⟨_, rfl, rfl, g3⟩) (pqZ)
          · have hb : r.busy who = false := hyb.symm.trans c33
            refine WC_skip ?_
            refine WQ_code ?_
            refine WC_seq ?_
            refine WC_region ?_
            refine WL_val rfl rfl rfl (R_move rfl rfl) ?_
            refine WL_val rfl rfl rfl (R_fieldAddr rfl fa58_3 rfl) ?_
            refine WL_do0 rfl rfl (D_store (vs := [_]) rfl Try.sizeOf28 rfl rfl rfl rfl rfl (plZ) (by exact Nat.le_of_ble_eq_true rfl)) ?_
            rintro _ _ rfl
            refine WL_nil ?_
            refine WQ_code ?_
            refine WC_seq ?_
            refine WC_seq ?_
            refine WC_region ?_
            refine WL_val rfl rfl rfl (R_move rfl rfl) ?_
            refine WL_val rfl rfl rfl (R_geq rfl rfl rfl) ?_
            refine WL_nil ?_
            refine WQ_code ?_
            refine WC_dec rfl (fun c34 => ?_) (fun c34 => ?_)
            · obtain ⟨j, hj⟩ := optI_pos (o := y.o) (by omega)
              obtain ⟨hjk, z, hz, _⟩ := selK_lt (hyo.symm.trans hj)
              obtain ⟨wc, hwc⟩ := h.c.some_of (by omega)
              have hget := rg_use hm hd hb (hyo.symm.trans hj) hz
              have hwl := withR_len_mem (c := ⟨z.num, 2, 0, 0⟩) ⟨z, List.mem_of_getElem? hz, rfl⟩
              refine WC_seq ?_
              refine WC_region ?_
              refine WL_val rfl rfl rfl (R_fieldAddr rfl fa58_4 rfl) ?_
              refine WL_val rfl rfl rfl (R_load rfl sc54 rfl (mmZ) rfl) ?_
              refine WL_val rfl rfl rfl (R_move rfl rfl) ?_
              refine WL_set (s := 93) (v := .int .i64 (j : Int)) rfl (by rw [hj]; rfl) ?_
              refine WL_val rfl rfl rfl (R_idxO hwc rfl Try.underlying54 Try.sizeOf139 rfl rfl (by omega)) ?_
              refine WL_val rfl rfl rfl (R_fieldAddr rfl fa139_0 rfl) ?_
              refine WL_val rfl rfl rfl (R_loadO (v := .int .i64 z.num) hwc rfl sc3 rfl (mmZ) (fm_get0 encR4 hz (j := 0) (by omega))) ?_
              refine WL_val rfl rfl rfl (R_assign rfl rfl) ?_
              refine WL_nil ?_
              refine WQ_code ?_
              refine WC_seq ?_
              refine WC_region ?_
              refine WL_val rfl rfl rfl (R_loadA (vs := [_, _, _, _, _, _, _]) rfl ag58 rfl (mmZ) rfl (atZ)) ?_
              refine WL_val rfl rfl rfl (R_move rfl rfl) ?_
              refine WL_val rfl rfl rfl (R_build rfl zv139 pl139 rfl rfl) ?_
              refine WL_do rfl rfl rfl (D_call (mwith_ok (h.at_ now) ⟨z.num, 2, 0, 0⟩ (by show (withR r.R _).length ≤ 64; omega)) rfl rfl rfl rfl (pqZ)) ?_
              rintro _ _ ⟨_, ⟨cb3, cc3, ct3, rfl, rfl, g3⟩, rfl⟩
              refine WL_val rfl rfl rfl (R_move rfl rfl) ?_
              refine WL_val rfl rfl rfl (R_move rfl rfl) ?_
              refine WL_val rfl rfl rfl (R_build rfl zv44 pl44 rfl rfl) ?_
              refine WL_do0 rfl rfl (D_store (vs := [_, _, _, _, _, _, _]) rfl Try.sizeOf58 rfl rfl rfl rfl rfl (plZ) (by exact Nat.le_of_ble_eq_true rfl)) ?_
              rintro _ _ rfl
              refine WL_do0 rfl rfl (D_store (vs := [_, _, _]) rfl Try.sizeOf44 rfl rfl rfl rfl rfl (plZ) (by exact Nat.le_of_ble_eq_true rfl)) ?_
              rintro _ _ rfl
              refine WL_val rfl rfl rfl (R_assign rfl rfl) ?_
              refine WL_nil ?_
              refine WQ_code ?_
              refine WC_ret ?_
              refine WQ_ret rfl rfl (.cons (.cell (vs := [_, _, _, _, _, _, _]) rfl ag58 (mmZ) rfl (atZ)) (.cons (.cell (vs := [_, _, _]) rfl ag44 (mmZ) rfl (atZ)) (.cons (.tmp rfl) .nil))) rfl (by
                  rw [hget]
                  first | exact ⟨_, rfl, rfl, h⟩ | exact ⟨_, rfl, rfl, g3⟩) (pqZ)
            · have hj := hyo.symm.trans (optI_neg (by omega))
              refine WC_skip ?_
              refine WQ_code ?_
              refine WC_seq ?_
              refine WC_seq ?_
              refine WC_region ?_
              refine WL_val rfl rfl rfl (R_fieldAddr rfl fa58_4 rfl) ?_
              refine WL_val rfl rfl rfl (R_load rfl sc54 rfl (mmZ) rfl) ?_
              refine WL_val rfl rfl rfl (R_len rfl Try.underlying54 rfl) ?_
              refine WL_val rfl rfl rfl (R_fieldAddr rfl fa58_0 rfl) ?_
              refine WL_val rfl rfl rfl (R_load rfl sc3 rfl (mmZ) rfl) ?_
              refine WL_val rfl rfl rfl (R_lss rfl rfl rfl) ?_
              refine WL_nil ?_
              refine WQ_code ?_
              refine WC_dec rfl (fun c35 => ?_) (fun c35 => ?_)
              · have hget := rg_dial hm hd hb hj (by omega)
                refine WC_seq ?_
                refine WC_region ?_
                refine WL_val rfl rfl rfl (R_loadA (vs := [_, _, _, _, _, _, _]) rfl ag58 rfl (mmZ) rfl (atZ)) ?_
                refine WL_val rfl rfl rfl (R_move rfl rfl) ?_
                refine WL_do rfl rfl rfl (D_call (mdial_ok (h.at_ now) who (show r.R.length < 64 by omega)) rfl rfl rfl rfl (pqZ)) ?_
                rintro _ _ ⟨_, ⟨cb3, cc3, ct3, rfl, rfl, g3⟩, rfl⟩
                refine WL_val rfl rfl rfl (R_move rfl rfl) ?_
                refine WL_val rfl rfl rfl (R_extract rfl rfl rfl) ?_
                refine WL_val rfl rfl rfl (R_extract rfl rfl rfl) ?_
                refine WL_do rfl rfl rfl (D_alloc rfl zv58) ?_
                rintro _ _ ⟨b9, rfl, rfl⟩
                refine WL_do0 rfl rfl (D_store (vs := [_, _, _, _, _, _, _]) rfl Try.sizeOf58 rfl rfl rfl rfl rfl (plZ) (by exact Nat.le_of_ble_eq_true rfl)) ?_
                rintro _ _ rfl
                refine WL_val rfl rfl rfl (R_assign rfl rfl) ?_
                refine WL_nil ?_
                refine WQ_code ?_
                refine WC_seq ?_
                refine WC_region ?_
                refine WL_val rfl rfl rfl (R_loadA (vs := [_, _, _, _, _, _, _]) rfl ag58 rfl (mmZ) rfl (atZ)) ?_
                refine WL_val rfl rfl rfl (R_move rfl rfl) ?_
                refine WL_val rfl rfl rfl (R_move rfl rfl) ?_
                refine WL_val rfl rfl rfl (R_build rfl zv44 pl44 rfl rfl) ?_
                refine WL_do0 rfl rfl (D_store (vs := [_, _, _, _, _, _, _]) rfl Try.sizeOf58 rfl rfl rfl rfl rfl (plZ) (by exact Nat.le_of_ble_eq_true rfl)) ?_
                rintro _ _ rfl
                refine WL_do0 rfl rfl (D_store (vs := [_, _, _]) rfl Try.sizeOf44 rfl rfl rfl rfl rfl (plZ) (by exact Nat.le_of_ble_eq_true rfl)) ?_
                rintro _ _ rfl
                refine WL_val rfl rfl rfl (R_assign rfl rfl) ?_
                refine WL_nil ?_
                refine WQ_code ?_
                refine WC_ret ?_
                refine WQ_ret rfl rfl (.cons (.cell (vs := [_, _, _, _, _, _, _]) rfl ag58 (mmZ) rfl (atZ)) (.cons (.cell (vs := [_, _, _]) rfl ag44 (mmZ) rfl (atZ)) (.cons (.tmp rfl) .nil))) rfl (by
                    rw [hget]
                    first | exact ⟨_, rfl, rfl, h⟩ | exact ⟨_, rfl, rfl, g3⟩) (pqZ)
              · have hget := rg_wait hm hd hb hj (by omega)
                refine WC_none 144 ?_
                refine WC_skip ?_
                refine WQ_code ?_
                refine WC_seq ?_
                refine WC_region ?_
                refine WL_val rfl rfl rfl (R_fieldAddr rfl fa58_5 rfl) ?_
                refine WL_val rfl rfl rfl (R_load rfl sc55 rfl (mmZ) rfl) ?_
                refine WL_do rfl rfl rfl (D_appendO rfl si55 rfl (Own.empty 2) plZ rfl h.q mmZ (encP_one _) (by have := h.ql; omega) (by have := h.ql; omega)) ?_
                rintro _ _ ⟨o8, c8, tl8, rfl, own8, rfl⟩
                rw [Nat.zero_add, List.nil_append] at own8 ⊢
                refine WL_val rfl rfl rfl (R_move rfl rfl) ?_
                refine WL_val rfl rfl rfl (R_move rfl rfl) ?_
                refine WL_val rfl rfl rfl (R_build rfl zv144 pl144 rfl rfl) ?_
                refine WL_do rfl rfl rfl (D_buildSlice rfl si55 rfl rfl rfl) ?_
                rintro _ _ ⟨b10, rfl, rfl⟩
                refine WL_do rfl rfl rfl (D_append rfl si55 rfl (own8) (plZ) rfl (mmZ) ((atZ : At _ 0 [_, _])) (rfl) (rfl) (by omega) (by omega)) ?_
                rintro _ _ ⟨ob11, cap11, tl11, rfl, own11, rfl⟩
                rw [show r.Q.flatMap encP ++ [Value.int .i64 who, .int .u64 (dl : Int)] = ((r.at_ now).wait who dl).Q.flatMap encP from by simp [RS.wait, RS.at_], show r.Q.length + 1 = ((r.at_ now).wait who dl).Q.length from by simp [RS.wait, RS.at_]] at own11 ⊢
                refine WL_val rfl rfl rfl (R_fieldAddr rfl fa58_5 rfl) ?_
                refine WL_do0 rfl rfl (D_store (vs := [_]) rfl Try.sizeOf55 rfl rfl rfl rfl rfl (plZ) (by exact Nat.le_of_ble_eq_true rfl)) ?_
                rintro _ _ rfl
                refine WL_nil ?_
                refine WQ_code ?_
                refine WC_seq ?_
                refine WC_region ?_
                refine WL_val rfl rfl rfl (R_loadA (vs := [_, _, _, _, _, _, _]) rfl ag58 rfl (mmZ) rfl (atZ)) ?_
                refine WL_val rfl rfl rfl (R_move rfl rfl) ?_
                refine WL_val rfl rfl rfl (R_build rfl zv44 pl44 rfl rfl) ?_
                refine WL_do0 rfl rfl (D_store (vs := [_, _, _, _, _, _, _]) rfl Try.sizeOf58 rfl rfl rfl rfl rfl (plZ) (by exact Nat.le_of_ble_eq_true rfl)) ?_
                rintro _ _ rfl
                refine WL_do0 rfl rfl (D_store (vs := [_, _, _]) rfl Try.sizeOf44 rfl rfl rfl rfl rfl (plZ) (by exact Nat.le_of_ble_eq_true rfl)) ?_
                rintro _ _ rfl
                refine WL_val rfl rfl rfl (R_assign rfl rfl) ?_
                refine WL_nil ?_
                refine WQ_code ?_
                refine WC_ret ?_
                refine WQ_ret rfl rfl (.cons (.cell (vs := [_, _, _, _, _, _, _]) rfl ag58 (mmZ) rfl (atZ)) (.cons (.cell (vs := [_, _, _]) rfl ag44 (mmZ) rfl (atZ)) (.cons (.tmp rfl) .nil))) rfl (by
                    rw [hget]
                    first | exact ⟨_, rfl, rfl, h⟩ | exact ⟨_, rfl, rfl, g3⟩ | exact ⟨{ M with qb := ob11, qc := cap11, qtl := tl11 }, rfl, rfl, ⟨h.c, own11, h.e, h.cl, by simp [RS.wait, RS.at_]; omega, h.el, h.op, h.ek⟩⟩) (pqZ)
end Go.Proofs.Yteofigbgdbpjgaa
end
