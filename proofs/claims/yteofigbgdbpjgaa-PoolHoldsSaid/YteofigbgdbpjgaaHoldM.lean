/-
  Chapter 46 (pool), part HoldM: contracts of functions that the laws call, each for the heap it names.
-/
import Derived.Test.YteofigbgdbpjgaaHoldL
import Derived.Test.YteofigbgdbpjgaaZB
set_option linter.unusedVariables false
set_option maxRecDepth 20000
namespace Go.Proofs.Yteofigbgdbpjgaa


theorem PH.at_ {s : PS} (h : PH s) (now : Nat) : PH (s.at_ now) := ⟨h.len, h.st, h.used, h.idle, h.wait, h.op⟩
theorem PH.tell {s : PS} (h : PH s) (k who c : Int) : PH (s.tell k who c) := ⟨h.len, h.st, h.used, h.idle, h.wait, h.op⟩
theorem PH.dry {s : PS} (h : PH s) (E : List Pv) : PH { s with E := E } := ⟨h.len, h.st, h.used, h.idle, h.wait, h.op⟩
theorem PH.lessQ {s : PS} (h : PH s) {Q : List Qp} (hq : Q = [] ∨ s.Q ≠ []) : PH { s with Q := Q } := ⟨h.len, h.st, h.used, h.idle, by
  rcases hq with e | e
  · exact .inl e
  · rcases h.wait with e2 | e2
    · exact absurd e2 e
    · exact .inr e2, h.op⟩
structure OpR (s s' : PS) (h : Nat → Int) (now : Nat) : Prop where
  ph : PH s'
  ev : ∃ E2, s'.E = s.E ++ E2 ∧ appE h E2 = some (hOf s'.C)
  w : wt s' ≤ wt s + 1
  n : s'.n ≤ s.n + 1
  now : s'.now = now
  op : s'.op = s.op
  most : s'.most = s.most
  len : s'.E.length ≤ s.E.length + s.Q.length + 128
theorem wt_set {s : PS} {i : Nat} {x y : Cn} (hx : s.C[i]? = some x) (hxs : 0 ≤ x.st ∧ x.st ≤ 3) (hys : 0 ≤ y.st ∧ y.st ≤ 3) : (wt (s.set i y) : Int) + x.st = wt s + y.st := by
  have e1 := cn_set 1 y hx
  have e2 := cn_set 2 y hx
  have e3 := cn_set 3 y hx
  show ((3 * cn 3 (s.C.set i y) + 2 * cn 2 (s.C.set i y) + cn 1 (s.C.set i y) + s.Q.length : Nat) : Int) + x.st = ((3 * cn 3 s.C + 2 * cn 2 s.C + cn 1 s.C + s.Q.length : Nat) : Int) + y.st
  (repeat' split at e1) <;> (repeat' split at e2) <;> (repeat' split at e3) <;> omega
theorem idle_Q {s : PS} (h : PH s) (hi : allI 3 s.C ≠ []) : s.Q = [] := by
  rcases h.wait with e | ⟨e, _⟩
  · exact e
  · exfalso
    obtain ⟨a, ha⟩ := List.exists_mem_of_ne_nil _ hi
    obtain ⟨i, x, _, hx, hst⟩ := allI_mem ha
    have := cn_pos hx hst
    omega
theorem room_Q {s : PS} (h : PH s) (hr : s.room = true) : s.Q = [] := by
  rcases h.wait with e | ⟨_, e⟩
  · exact e
  · have := h.room.1 hr; omega
theorem get_ev {s : PS} (h : PH s) {who : Int} {now dl : Nat} (he : getE_ s who now dl = 0) :
    PH (s.getS who now dl) ∧ wt (s.getS who now dl) ≤ wt s + 1 ∧ (s.getS who now dl).n ≤ s.n + 1 ∧ (s.getS who now dl).now = now ∧ (s.getS who now dl).op = s.op ∧ (s.getS who now dl).most = s.most ∧ (s.getS who now dl).E = s.E ∧ appE (hOf s.C) [s.getV who now dl] = some (hOf (s.getS who now dl).C) := by
  by_cases hi : allI 3 s.C = []
  · cases hr : s.room with
    | true =>
      obtain ⟨e1, e2⟩ := get_dial he hi hr
      obtain ⟨x, hx, hx0, hfl⟩ := free_x h hr
      rw [e1, e2]
      have hp := (h.at_ now).set (i := s.free) (y := ⟨1, who, 0⟩) hx b1_ (.inr (.inr hr)) (.inl (by show (1 : Int) ≠ 3; decide)) (.inl (show s.Q = [] from room_Q h hr))
      have hw := wt_set (s := s.at_ now) (y := ⟨1, who, 0⟩) hx (h.st x (List.mem_of_getElem? hx)) b1_
      refine ⟨hp, ?_, Nat.le_succ _, rfl, rfl, rfl, rfl, ?_⟩
      · rw [hx0] at hw
        have h9 : wt (s.at_ now) = wt s := rfl
        have h8 : ((wt ((s.at_ now).dial who) : Nat) : Int) + 0 = wt (s.at_ now) + 1 := hw
        omega
      · rw [appE_one (.inr rfl) hfl (by rw [hOf_at hx, hx0]; rfl)]
        exact congrArg some (hOf_set (C := s.C) (by rw [h.len]; exact hfl) ⟨1, who, 0⟩).symm
    | false =>
      obtain ⟨e1, e2⟩ := get_wait he hi hr
      rw [e1, e2]
      have h3 := cn_nil hi
      have hnr : ¬ (cn 1 s.C + cn 2 s.C + cn 3 s.C < s.op) := fun q => by have := h.room.2 q; rw [hr] at this; cases this
      have hu := h.used
      refine ⟨⟨h.len, h.st, h.used, h.idle, .inr ⟨h3, show cn 1 s.C + cn 2 s.C + cn 3 s.C = s.op by omega⟩, h.op⟩, ?_, Nat.le_refl _, rfl, rfl, rfl, rfl, ?_⟩
      · show 3 * cn 3 s.C + 2 * cn 2 s.C + cn 1 s.C + (s.Q ++ [_]).length ≤ 3 * cn 3 s.C + 2 * cn 2 s.C + cn 1 s.C + s.Q.length + 1
        rw [List.length_append]; simp; omega
      · exact appE_quiet fun e he => by rw [List.mem_singleton.1 he]; exact ⟨by show (3 : Int) ≠ 1; decide, by show (3 : Int) ≠ 2; decide⟩
  · obtain ⟨e1, e2⟩ := get_use he hi
    obtain ⟨k, x, hk, hx, hkl, hx3⟩ := last_mem hi
    rw [e1, e2]
    have hp := (h.at_ now).set (i := s.last.toNat) (y := ⟨2, 0, 0⟩) hx b2_ (.inr (.inl (by rw [hx3]; decide))) (.inl (by show (2 : Int) ≠ 3; decide)) (.inl (show s.Q = [] from idle_Q h hi))
    have hw := wt_set (s := s.at_ now) (y := ⟨2, 0, 0⟩) hx (h.st x (List.mem_of_getElem? hx)) b2_
    refine ⟨hp, ?_, Nat.le_succ _, rfl, rfl, rfl, rfl, ?_⟩
    · rw [hx3] at hw
      have h9 : wt (s.at_ now) = wt s := rfl
      have h8 : ((wt ((s.at_ now).set s.last.toNat ⟨2, 0, 0⟩) : Nat) : Int) + 3 = wt (s.at_ now) + 2 := hw
      omega
    · have hlt : s.last.toNat < s.C.length := by rw [hk, Int.toNat_natCast]; exact hkl
      have e3 : s.last = ((s.last.toNat : Nat) : Int) := by rw [hk, Int.toNat_natCast]
      rw [show (⟨1, who, s.last⟩ : Pv) = ⟨1, who, ((s.last.toNat : Nat) : Int)⟩ from congrArg (Pv.mk 1 who) e3]
      rw [appE_one (.inl rfl) (by rw [← h.len]; exact hlt) (by rw [hOf_at hx, hx3]; rfl)]
      exact congrArg some (hOf_set (C := s.C) hlt ⟨2, 0, 0⟩).symm
theorem dialed_made_R {s : PS} (h : PH s) {k : Nat} {x : Cn} (hx : s.C[k]? = some x) (hs : x.st = 1) (now : Nat) : PH ((s.at_ now).set k ⟨2, 0, 0⟩) ∧ wt ((s.at_ now).set k ⟨2, 0, 0⟩) ≤ wt s + 1 ∧ hOf ((s.at_ now).set k ⟨2, 0, 0⟩).C = updH (hOf s.C) k 2 := by
  have hw := wt_set (s := s.at_ now) (y := ⟨2, 0, 0⟩) hx (h.st x (List.mem_of_getElem? hx)) b2_
  refine ⟨(h.at_ now).set (y := ⟨2, 0, 0⟩) hx b2_ (.inr (.inl (by rw [hs]; decide))) (.inl (by show (2 : Int) ≠ 3; decide)) (.inr ⟨hs, rfl⟩), ?_, hOf_set (C := s.C) (List.getElem?_eq_some_iff.1 hx).1 _⟩
  rw [hs] at hw
  have h9 : wt (s.at_ now) = wt s := rfl
  have h8 : ((wt ((s.at_ now).set k ⟨2, 0, 0⟩) : Nat) : Int) + 1 = wt (s.at_ now) + 2 := hw
  omega
theorem lose_at {s : PS} (h : PH s) {k : Nat} {x : Cn} (hx : s.C[k]? = some x) (hs : x.st ≠ 0) (now : Nat) : OpR s ((s.at_ now).lose k) (updH (hOf s.C) k 0) now := by
  have r := lose_R (h.at_ now) hx hs
  obtain ⟨E2, e1, e2, e3⟩ := r.ev
  exact ⟨r.ph, ⟨E2, e1, e2⟩, by have := r.w; have h9 : wt (s.at_ now) = wt s := rfl; omega, by rw [r.n]; exact Nat.le_succ _, r.now, r.op, r.most, by rw [e1, List.length_append]; (show s.E.length + _ ≤ _); omega⟩
theorem close_at {s : PS} (h : PH s) {k : Nat} {x : Cn} (hx : s.C[k]? = some x) (hs : x.st ≠ 0) (now : Nat) : OpR s (((s.at_ now).tell 5 (-1) (k : Int)).lose k) (updH (hOf s.C) k 0) now := by
  have r := lose_R ((h.at_ now).tell 5 (-1) (k : Int)) hx hs
  obtain ⟨E2, e1, e2, e3⟩ := r.ev
  refine ⟨r.ph, ⟨⟨5, -1, (k : Int)⟩ :: E2, by rw [e1]; show (s.E ++ [_]) ++ E2 = _; simp, ?_⟩, by have := r.w; have h9 : wt ((s.at_ now).tell 5 (-1) (k : Int)) = wt s := rfl; omega, by rw [r.n]; exact Nat.le_succ _, r.now, r.op, r.most, by rw [e1, List.length_append]; (show (s.E ++ [_]).length + _ ≤ _); rw [List.length_append, List.length_singleton]; omega⟩
  unfold appE
  rw [if_pos ⟨by show (5 : Int) ≠ 1; decide, by show (5 : Int) ≠ 2; decide⟩]
  exact e2
theorem dialed_R {s : PS} (h : PH s) {c : Int} {now : Nat} (he : s.inE c 1 now = 0) (made : Bool) : ∃ k : Nat, c = (k : Int) ∧ k < 64 ∧ hOf s.C k = 1 ∧ OpR s (s.dialed c made now) (if made = true then updH (hOf s.C) k 2 else updH (hOf s.C) k 0) now := by
  obtain ⟨k, x, rfl, hk, hx, hst, _, _⟩ := inE_zero he
  refine ⟨k, rfl, hk, by rw [hOf_at hx, hst]; rfl, ?_⟩
  cases made with
  | true =>
    rw [dialed_made he, if_pos rfl]
    obtain ⟨a, b, c⟩ := dialed_made_R h hx hst now
    exact ⟨a, ⟨[], (List.append_nil _).symm, by rw [c]; rfl⟩, b, Nat.le_succ _, rfl, rfl, rfl, by show s.E.length ≤ _; omega⟩
  | false =>
    rw [dialed_lost he, if_neg (by decide)]
    exact lose_at h hx (by rw [hst]; decide) now
theorem put_R {s : PS} (h : PH s) {c : Int} {now : Nat} (he : s.inE c 2 now = 0) (good : Bool) : ∃ k : Nat, c = (k : Int) ∧ k < 64 ∧ hOf s.C k = 2 ∧ OpR s (s.put c good now) (updH (hOf s.C) k 0) now := by
  obtain ⟨k, x, rfl, hk, hx, hst, _, _⟩ := inE_zero he
  have h2 : hOf s.C k = 2 := by rw [hOf_at hx, hst]; rfl
  refine ⟨k, rfl, hk, h2, ?_⟩
  cases good with
  | false => rw [put_bad he]; exact close_at h hx (by rw [hst]; decide) now
  | true =>
    cases hQ : s.Q with
    | nil =>
      by_cases hl : (allI 3 s.C).length < s.most
      · rw [put_idle he hQ hl]
        have hl2 : cn 3 s.C < s.most := by rw [← allF_cn 3 s.C 0]; exact hl
        have hp := (h.at_ now).set (y := ⟨3, 0, now⟩) hx b3_ (.inr (.inl (by rw [hst]; decide))) (.inr hl2) (.inl hQ)
        have hw := wt_set (s := s.at_ now) (y := ⟨3, 0, now⟩) hx (h.st x (List.mem_of_getElem? hx)) b3_
        refine ⟨hp, ⟨[], (List.append_nil _).symm, congrArg some (hOf_set (C := s.C) (List.getElem?_eq_some_iff.1 hx).1 ⟨3, 0, now⟩).symm⟩, ?_, Nat.le_succ _, rfl, rfl, rfl, by show s.E.length ≤ _; omega⟩
        rw [hst] at hw
        have h9 : wt (s.at_ now) = wt s := rfl
        have h8 : ((wt ((s.at_ now).set k ⟨3, 0, now⟩) : Nat) : Int) + 2 = wt (s.at_ now) + 3 := hw
        omega
      · rw [put_over he hQ hl]; exact close_at h hx (by rw [hst]; decide) now
    | cons a r =>
      rw [put_use he hQ]
      have hne : s.Q ≠ [] := by rw [hQ]; simp
      have hp : PH (((s.at_ now).pop).tell 1 a.who (k : Int)) := ((h.at_ now).lessQ (Q := s.Q.drop 1) (.inr hne)).tell _ _ _
      refine ⟨hp, ⟨[⟨1, a.who, (k : Int)⟩], rfl, ?_⟩, ?_, Nat.le_succ _, rfl, rfl, rfl, by show (s.E ++ [_]).length ≤ _; rw [List.length_append, List.length_singleton]; omega⟩
      · rw [appE_one (.inl rfl) hk (updH_at _ _ _), if_pos rfl, updH_twice]
        exact congrArg some (show _ = hOf s.C by rw [← h2, updH_same])
      · show 3 * cn 3 s.C + 2 * cn 2 s.C + cn 1 s.C + (s.Q.drop 1).length ≤ 3 * cn 3 s.C + 2 * cn 2 s.C + cn 1 s.C + s.Q.length + 1
        rw [List.length_drop]; omega
theorem cancel_R {s : PS} (h : PH s) {who : Int} {now : Nat} (he : s.canE who now = 0) : OpR s (s.cancel who now) (hOf s.C) now := by
  rw [cancel_ok he]
  have hp : PH ((s.at_ now).leave who) := (h.at_ now).lessQ (Q := s.Q.filter fun x => decide (x.who ≠ who)) (by
    cases hQ : s.Q with
    | nil => exact .inl rfl
    | cons a r => exact .inr (by show s.Q ≠ []; rw [hQ]; simp))
  refine ⟨hp, ⟨[], (List.append_nil _).symm, rfl⟩, ?_, Nat.le_succ _, rfl, rfl, rfl, by show s.E.length ≤ _; omega⟩
  show 3 * cn 3 s.C + 2 * cn 2 s.C + cn 1 s.C + (s.Q.filter _).length ≤ 3 * cn 3 s.C + 2 * cn 2 s.C + cn 1 s.C + s.Q.length + 1
  have := List.length_filter_le (fun x : Qp => decide (x.who ≠ who)) s.Q
  omega
structure AdR (s s' : PS) : Prop where
  ph : PH s'
  ev : ∃ E2, s'.E = s.E ++ E2 ∧ ∀ e ∈ E2, e.k ≠ 1 ∧ e.k ≠ 2
  h : hOf s'.C = hOf s.C
  w : wt s' ≤ wt s
  n : s'.n = s.n
  now : s'.now = s.now
  op : s'.op = s.op
  most : s'.most = s.most
theorem AdR.refl {s : PS} (h : PH s) : AdR s s := ⟨h, ⟨[], (List.append_nil _).symm, fun e he => by cases he⟩, rfl, Nat.le_refl _, rfl, rfl, rfl, rfl⟩
theorem AdR.trans {a b c : PS} (h1 : AdR a b) (h2 : AdR b c) : AdR a c := by
  obtain ⟨E1, e1, f1⟩ := h1.ev
  obtain ⟨E2, e2, f2⟩ := h2.ev
  exact ⟨h2.ph, ⟨E1 ++ E2, by rw [e2, e1, List.append_assoc], fun e he => by rcases List.mem_append.1 he with he | he; exact f1 e he; exact f2 e he⟩, h2.h.trans h1.h, Nat.le_trans h2.w h1.w, h2.n.trans h1.n, h2.now.trans h1.now, h2.op.trans h1.op, h2.most.trans h1.most⟩
theorem tmo_R {s : PS} (h : PH s) (x : Qp) : AdR s (s.tmo x) := by
  refine ⟨((h.lessQ (Q := s.Q.filter fun y => decide (y.who ≠ x.who)) ?_).tell _ _ _), ⟨[⟨4, x.who, -1⟩], rfl, fun e he => by rw [List.mem_singleton.1 he]; exact ⟨by show (4 : Int) ≠ 1; decide, by show (4 : Int) ≠ 2; decide⟩⟩, rfl, ?_, rfl, rfl, rfl, rfl⟩
  · cases hQ : s.Q with
    | nil => exact .inl rfl
    | cons a r => exact .inr (by simp)
  · show 3 * cn 3 s.C + 2 * cn 2 s.C + cn 1 s.C + (s.Q.filter _).length ≤ 3 * cn 3 s.C + 2 * cn 2 s.C + cn 1 s.C + s.Q.length
    have := List.length_filter_le (fun y : Qp => decide (y.who ≠ x.who)) s.Q
    omega
theorem tmos_R : ∀ (l : List Qp) {s : PS}, PH s → AdR s (l.foldl PS.tmo s)
  | [], s, h => AdR.refl h
  | x :: r, s, h => (tmo_R h x).trans (tmos_R r (tmo_R h x).ph)
theorem shut_R {s : PS} (h : PH s) {k : Nat} {x : Cn} (hx : s.C[k]? = some x) (hs : x.st = 3) : AdR s (s.shut (k : Int)) ∧ (s.shut (k : Int)).C = s.C.set k ⟨0, 0, 0⟩ := by
  have hQ : s.Q = [] := idle_Q h (fun e => by have := cn_pos hx hs; rw [cn_nil e] at this; omega)
  have r := lose_R (h.tell 5 (-1) (k : Int)) hx (by rw [hs]; decide)
  have hC : ((s.tell 5 (-1) (k : Int)).lose k).C = s.C.set k ⟨0, 0, 0⟩ := by
    have e : (s.tell 5 (-1) (k : Int)).lose k = (s.tell 5 (-1) (k : Int)).set k ⟨0, 0, 0⟩ := PS.next_nil hQ
    rw [e]; rfl
  rw [pshut_eq]
  obtain ⟨e1, e2⟩ := r.none hQ
  refine ⟨⟨r.ph, ⟨[⟨5, -1, (k : Int)⟩], e1, fun e he => by rw [List.mem_singleton.1 he]; exact ⟨by show (5 : Int) ≠ 1; decide, by show (5 : Int) ≠ 2; decide⟩⟩, ?_, by have := r.w; have h9 : wt (s.tell 5 (-1) (k : Int)) = wt s := rfl; omega, r.n, r.now, r.op, r.most⟩, hC⟩
  rw [e2]
  show updH (hOf s.C) k 0 = _
  have h0 : hOf s.C k = 0 := by rw [hOf_at hx, hs]; rfl
  rw [← h0, updH_same]
theorem shuts_R : ∀ (l : List Int) {s : PS}, PH s → l.Nodup → (∀ a ∈ l, a ∈ allI 3 s.C) → AdR s (l.foldl PS.shut s)
  | [], s, h, _, _ => AdR.refl h
  | a :: r, s, h, hn, hm => by
    obtain ⟨k, x, rfl, hx, hs⟩ := allI_mem (hm a (List.mem_cons_self ..))
    obtain ⟨h1, h2⟩ := List.nodup_cons.1 hn
    obtain ⟨q, hC⟩ := shut_R h hx hs
    refine q.trans (shuts_R r q.ph h2 fun b hb => ?_)
    obtain ⟨j, y, rfl, hy, hy3⟩ := allI_mem (hm b (List.mem_cons_of_mem _ hb))
    have hjk : k ≠ j := fun e => h1 (by rw [e]; exact hb)
    exact allI_in (x := y) (by rw [hC, List.getElem?_set_ne hjk]; exact hy) hy3
theorem old_nodup (s : PS) (now : Nat) : (s.old now).Nodup := by
  refine (List.mergeSort_perm _ _).nodup_iff.2 ?_
  have h1 := (allF_srt 3 s.C 0).1
  have h2 : (allI 3 s.C).Nodup := h1.imp fun h => Int.ne_of_lt h
  exact h2.sublist (List.filter_sublist ..)
theorem adv_R {s : PS} (h : PH s) {now : Nat} (hm : s.may true now = 0) : OpR s (s.advance now) (hOf s.C) now := by
  rw [adv_ok hm]
  have r1 : AdR (s.at_ now) (s.adv1 now) := tmos_R (s.late now) (h.at_ now)
  have r2 := shuts_R ((s.adv1 now).old now) r1.ph (old_nodup _ _) fun a ha => (old_mem ha).1
  have r := r1.trans r2
  obtain ⟨E2, e1, e2⟩ := r.ev
  refine ⟨r.ph, ⟨E2, e1, ?_⟩, by have := r.w; have h9 : wt (s.at_ now) = wt s := rfl; omega, by rw [r.n]; exact Nat.le_succ _, r.now, r.op, r.most, ?_⟩
  · have h9 : hOf (s.at_ now).C = hOf s.C := rfl
    rw [← h9, ← r.h]; exact appE_quiet e2
  · have a1 := shuts_E ((s.adv1 now).old now) (s.adv1 now)
    have a2 := (tmo_rest (s.late now) (s.at_ now)).2.2.2.1
    have a3 := (late_perm s now).length_eq
    have a4 := List.length_filter_le (fun x : Qp => decide (x.dl ≤ now)) s.Q
    have a5 := old_len (s.adv1 now) now
    have a6 := allI_len 3 (s.adv1 now).C
    rw [r1.ph.len] at a6
    have a7 : (s.adv1 now).E.length = s.E.length + (s.late now).length := a2
    omega
theorem hOf_in {s : PS} (hl : s.C.length = 64) {k : Nat} (hk : k < 64) {t : Int} (ht : t = 1 ∨ t = 2) {now : Nat} (h1 : s.now ≤ now) (h2 : now ≠ 18446744073709551615) : s.inE (k : Int) t now = 0 ↔ hOf s.C k = t := by
  obtain ⟨x, hx⟩ := getE (T := s.C) (i := k) (by omega)
  have hm : s.may (decide (0 ≤ (k : Int))) now = 0 := may_fine (decide_eq_true (by omega)) (by omega)
  rw [hOf_at hx]
  constructor
  · intro h
    obtain ⟨k2, x2, e, _, hx2, hst, _, _⟩ := inE_zero h
    obtain rfl : k = k2 := by omega
    rw [hx] at hx2
    obtain rfl := Option.some.inj hx2
    rw [hst]
    unfold stV
    rcases ht with rfl | rfl <;> decide
  · intro h
    refine inE_ok hm ?_
    rw [Int.toNat_natCast, hx]
    unfold stV at h
    simp only [Option.map_some, Option.some.injEq, ne_eq]
    split at h
    · omega
    · split at h <;> omega

structure CutI (s s' : PS) (h : Nat → Int) (t : Nat) : Prop where
  ph : PH s'
  ev : appE h s'.E = some (hOf s'.C)
  len : s'.E.length < 300
  w : wt s' ≤ wt s + 1
  n : s'.n ≤ s.n + 1
  now : s'.now ≤ t
  op : s'.op = s.op
  most : s'.most = s.most
theorem q_wt (s : PS) : s.Q.length ≤ wt s := Nat.le_add_left _ _
theorem OpR.cut {s s' : PS} {h : Nat → Int} {t : Nat} (r : OpR s s' h t) (hE : s.E = []) (h2 : s.Q.length ≤ 100) : CutI s s' h t := by
  obtain ⟨E2, e1, e2⟩ := r.ev
  rw [hE, List.nil_append] at e1
  have h1 := r.len
  rw [hE] at h1
  simp only [List.length_nil] at h1
  exact ⟨r.ph, by rw [e1]; exact e2, by omega, r.w, r.n, by rw [r.now]; exact Nat.le_refl _, r.op, r.most⟩
theorem cut_refl {s : PS} (h : PH s) (hE : s.E = []) {t : Nat} (ht : s.now ≤ t) : CutI s s (hOf s.C) t := ⟨h, by rw [hE]; rfl, by rw [hE]; decide, Nat.le_succ _, Nat.le_succ _, ht, rfl, rfl⟩
theorem get_cut {s : PS} (h : PH s) (hE : s.E = []) {who : Int} {t dl : Nat} (he : getE_ s who t dl = 0) : CutI s (s.getS who t dl) (hOf (s.getS who t dl).C) t := by
  obtain ⟨a, b, c, d, e, f, g, _⟩ := get_ev h he
  exact ⟨a, by rw [g, hE]; rfl, by rw [g, hE]; decide, b, c, by rw [d]; exact Nat.le_refl _, e, f⟩
theorem cancel_cut {s : PS} (h : PH s) (hE : s.E = []) (hw : s.Q.length ≤ 100) (who : Int) {t : Nat} (ht : s.now ≤ t) : CutI s (s.cancel who t) (hOf s.C) t := by
  by_cases he : s.canE who t = 0
  · exact (cancel_R h he).cut hE hw
  · rw [cancel_no he]; exact cut_refl h hE ht
theorem CutI.dry {s s' : PS} {h : Nat → Int} {t : Nat} (c : CutI s s' h t) : PH { s' with E := [] } := c.ph.dry []
theorem hOf_le {s : PS} (h : PH s) (i : Nat) : hOf s.C i = 0 ∨ hOf s.C i = 1 ∨ hOf s.C i = 2 := by
  unfold hOf
  split
  · unfold stV; split
    · exact .inr (.inl rfl)
    · split
      · exact .inr (.inr rfl)
      · exact .inl rfl
  · exact .inl rfl
theorem put_q {s : PS} (h : PH s) {k now : Nat} (he : s.inE (k : Int) 2 now = 0) : (s.Q ≠ [] → (s.put (k : Int) true now).Q.length < s.Q.length) ∧ (s.Q = [] → (s.put (k : Int) true now).Q = [] ∧ hOf (s.put (k : Int) true now).C = updH (hOf s.C) k 0) := by
  obtain ⟨k2, x, e, hk, hx, hst, _, _⟩ := inE_zero he
  obtain rfl : k = k2 := by omega
  constructor
  · intro hQ
    cases hq : s.Q with
    | nil => exact absurd hq hQ
    | cons a r =>
      rw [put_use he hq]
      show (s.Q.drop 1).length < _
      rw [hq]; simp
  · intro hQ
    by_cases hl : (allI 3 s.C).length < s.most
    · rw [put_idle he hQ hl]
      exact ⟨hQ, hOf_set (C := s.C) (List.getElem?_eq_some_iff.1 hx).1 ⟨3, 0, now⟩⟩
    · rw [put_over he hQ hl]
      have r := lose_R ((h.at_ now).tell 5 (-1) (k : Int)) hx (by rw [hst]; decide)
      exact ⟨by rw [r.q]; show s.Q.drop 1 = []; rw [hQ]; rfl, (r.none hQ).2⟩
/-- How far the end has come. -/
def Prog (s : PS) (q0 n : Nat) : Prop := s.Q.length < q0 ∨ (s.Q.length = q0 ∧ ∀ i, i < n → hOf s.C i = 0)
theorem Prog.skip {s : PS} {q0 n : Nat} (h : Prog s q0 n) (h0 : hOf s.C n = 0) : Prog s q0 (n + 1) := by
  rcases h with h | ⟨h1, h2⟩
  · exact .inl h
  · refine .inr ⟨h1, fun i hi => ?_⟩
    by_cases e : i = n
    · rw [e]; exact h0
    · exact h2 i (by omega)
theorem Prog.put {s s1 : PS} {q0 n t : Nat} (h : Prog s q0 n) (hp : PH s1) (hQ : s1.Q = s.Q) (hh : ∀ i, i < n → hOf s1.C i = hOf s.C i) (he : s1.inE (n : Int) 2 t = 0) : Prog { s1.put (n : Int) true t with E := [] } q0 (n + 1) := by
  obtain ⟨h1, h2⟩ := put_q hp he
  by_cases e : s1.Q = []
  · obtain ⟨h3, h4⟩ := h2 e
    rcases h with h | ⟨h5, h6⟩
    · left
      show (s1.put (n : Int) true t).Q.length < q0
      rw [h3]; have : 0 ≤ s.Q.length := Nat.zero_le _; simp; omega
    · right
      refine ⟨?_, fun i hi => ?_⟩
      · show (s1.put (n : Int) true t).Q.length = q0
        rw [h3, ← h5, ← hQ, e]
      · show hOf (s1.put (n : Int) true t).C i = 0
        rw [h4]
        by_cases e2 : i = n
        · rw [e2, updH_at]
        · rw [updH_ne _ _ e2, hh i (by omega)]; exact h6 i (by omega)
  · left
    have := h1 e
    show (s1.put (n : Int) true t).Q.length < q0
    rw [hQ] at this
    rcases h with h | ⟨h5, _⟩ <;> omega
theorem none_cn {s : PS} (h : PH s) (h0 : ∀ i, i < 64 → hOf s.C i = 0) : cn 1 s.C = 0 ∧ cn 2 s.C = 0 := by
  have key : ∀ t : Int, t = 1 ∨ t = 2 → cn t s.C = 0 := fun t ht => List.countP_eq_zero.2 fun x hx => by
    obtain ⟨i, hi⟩ := List.mem_iff_getElem?.1 hx
    have h1 := h0 i (by rw [← h.len]; exact (List.getElem?_eq_some_iff.1 hi).1)
    rw [hOf_at hi] at h1
    unfold stV at h1
    simp only [decide_eq_true_eq]
    intro e
    rw [e] at h1
    rcases ht with rfl | rfl <;> simp at h1
  exact ⟨key 1 (.inl rfl), key 2 (.inr rfl)⟩
theorem mod64 (n : Int) : ∃ q : Nat, (IntKind.u64.wrap n).tmod 64 = (q : Int) ∧ q < 64 := by
  have h1 : IntKind.u64.wrap n = n % 18446744073709551616 := by
    unfold IntKind.wrap
    rw [if_neg (by simp [IntKind.signed])]; rfl
  rw [h1, Int.tmod_eq_emod_of_nonneg (by omega)]
  exact ⟨(n % 18446744073709551616 % 64).toNat, by omega, by omega⟩
theorem hOf_new (op most keep : Nat) : hOf (PS.new op most keep).C = fun _ => 0 := funext fun i => by
  unfold hOf PS.new
  dsimp only
  rw [List.getElem?_replicate]
  split
  · rename_i h
    split at h
    · cases h; rfl
    · cases h
  · rfl
theorem ph_new {op most keep : Nat} (h1 : 1 ≤ op ∧ op ≤ 64) (h2 : most ≤ 64) : PH (PS.new op most keep) := by
  have e : ∀ t : Int, t ≠ 0 → cn t (PS.new op most keep).C = 0 := fun t ht => List.countP_eq_zero.2 fun x hx => by
    rw [List.eq_of_mem_replicate hx]
    simp only [decide_eq_true_eq]
    exact fun e => ht e.symm
  exact ⟨by simp [PS.new], fun x hx => by rw [List.eq_of_mem_replicate hx]; exact b0_, by rw [e 1 (by decide), e 2 (by decide), e 3 (by decide)]; exact Nat.zero_le _, by rw [e 3 (by decide)]; exact Nat.zero_le _, .inl rfl, h1.2⟩
theorem wt_new (op most keep : Nat) : wt (PS.new op most keep) = 0 := by
  have e : ∀ t : Int, t ≠ 0 → cn t (PS.new op most keep).C = 0 := fun t ht => List.countP_eq_zero.2 fun x hx => by
    rw [List.eq_of_mem_replicate hx]
    simp only [decide_eq_true_eq]
    exact fun e => ht e.symm
  unfold wt
  rw [e 1 (by decide), e 2 (by decide), e 3 (by decide)]; rfl
theorem Prog.le {s : PS} {q0 n : Nat} (h : Prog s q0 n) : s.Q.length ≤ q0 := by rcases h with h | ⟨h, _⟩ <;> omega
structure DrW where
  i : Nat
  m : PM
  E : List Pv
  h : Nat → Int
structure HoW where
  k : Nat
  m : PM
  s : PS
  t : Nat
structure HoC where
  m : PM
  s : PS
  h : Nat → Int
structure HoE where
  k : Nat
  m : PM
  s : PS
abbrev hdV (h : Nat → Int) : List Value := arrV 64 (fun i => .int .i64 (h i))
theorem hd_get (h : Nat → Int) {i : Nat} (hi : i < 64) : (hdV h)[0 + i * 1]? = some (.int .i64 (h i)) := arr_get _ hi
theorem hd_put (h : Nat → Int) {i : Nat} (hi : i < 64) (v : Int) : putAt (hdV h) (0 + i * 1) [.int .i64 v] = hdV (updH h i v) := arr_put hi _ (by rw [updH_at]) (fun j hj e => by rw [updH_ne _ _ e])
theorem hd_room (h : Nat → Int) {i : Nat} (hi : i < 64) : 0 + i * 1 + 1 ≤ (hdV h).length := by rw [arr_len]; omega
theorem nx_E {s : PS} {E r : List Pv} {e : Pv} (hE : E = e :: r) : PS.nx { s with E := E } = { s with E := r } := by unfold PS.nx; rw [hE]; rfl
structure Ac46 where
  wt : Int
  n : Int
  now : Nat
  dl : Nat
  good : Bool
abbrev encA46 (x : Ac46) : List Value := [.int .i64 x.wt, .int .i64 x.n, .int .u64 (x.now : Int), .int .u64 (x.dl : Int), .bool x.good]
def vB (op most : Int) (keep : Nat) : Bool := decide (1 ≤ op ∧ op ≤ 64 ∧ 0 ≤ most ∧ most ≤ 64 ∧ 1 ≤ keep)

end Go.Proofs.Yteofigbgdbpjgaa
