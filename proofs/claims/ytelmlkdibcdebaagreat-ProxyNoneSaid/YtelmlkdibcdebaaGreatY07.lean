/-
  Chapter 49 (proxy), part None: contracts of functions that the laws call, each for the heap it names.
-/
import Derived.Test.YtelmlkdibcdebaaGreatY06
import Derived.Test.YtelmlkdibcdebaaGreatRows
section
set_option linter.unusedVariables false
set_option maxRecDepth 20000
set_option maxHeartbeats 1000000
namespace Go.Proofs.YtelmlkdibcdebaaGreat
theorem sum_set {f : PS → Nat} : ∀ {P : List PS} {i : Nat} {si : PS} (s' : PS), P[i]? = some si → ((P.set i s').map f).sum + f si = (P.map f).sum + f s'
  | [], _, _, _, h => by simp at h
  | a :: r, 0, si, s', h => by
    simp at h; subst h
    simp only [List.set_cons_zero, List.map_cons, List.sum_cons]; omega
  | a :: r, i + 1, si, s', h => by
    have ih := sum_set (f := f) (P := r) (i := i) (si := si) s' (by simpa using h)
    simp only [List.set_cons_succ, List.map_cons, List.sum_cons]; omega
abbrev lat (S : List Ss) : Nat := S.countP (fun s => decide (s.st = 1))
def wP (P : List PS) : Nat := (P.map wt).sum
theorem wP_at : ∀ {P : List PS} {i : Nat} {si : PS}, P[i]? = some si → wt si ≤ wP P
  | [], _, _, h => by simp at h
  | a :: r, 0, si, h => by simp at h; subst h; simp [wP]
  | a :: r, i + 1, si, h => by
    have ih := wP_at (P := r) (i := i) (si := si) (by simpa using h)
    unfold wP at ih ⊢
    rw [List.map_cons, List.sum_cons]; omega
theorem lat_mid (A B : List Ss) (s : Ss) : lat (A ++ s :: B) = lat (A ++ B) + (if s.st = 1 then 1 else 0) := by
  unfold lat
  rw [List.countP_append, List.countP_append, List.countP_cons]
  by_cases h : s.st = 1
  · rw [if_pos (decide_eq_true h), if_pos h]; omega
  · rw [if_neg (by simpa using h), if_neg h]; omega
/-- What a proxy weighs: its connections, who waits, and who tries later. -/
def wX (x : PX) : Nat := wP x.P + lat x.S
theorem dialed_lost_w {s : PS} (h : PH s) (c : Int) (now : Nat) : wt (s.dialed c false now) ≤ wt s := by
  by_cases he : s.inE c 1 now = 0
  · obtain ⟨k, x, rfl, _, hx, hst, _⟩ := inE_zero he
    rw [dialed_lost he]
    have r := (lose_R (h.at_ now) hx (by rw [hst]; decide)).w
    have h9 : wt (s.at_ now) = wt s := rfl
    omega
  · rw [dialed_no he]; exact Nat.le_refl _
theorem dialed_w {s : PS} (h : PH s) (c : Int) (made : Bool) (now : Nat) : wt (s.dialed c made now) ≤ wt s + 1 := by
  by_cases he : s.inE c 1 now = 0
  · obtain ⟨k, _, _, _, r⟩ := dialed_R h he made; exact r.w
  · rw [dialed_no he]; exact Nat.le_succ _
theorem put_w {s : PS} (h : PH s) (c : Int) (good : Bool) (now : Nat) : wt (s.put c good now) ≤ wt s + 1 := by
  by_cases he : s.inE c 2 now = 0
  · obtain ⟨k, _, _, _, r⟩ := put_R h he good; exact r.w
  · rw [put_no he]; exact Nat.le_succ _
theorem adv_w {s : PS} (h : PH s) (now : Nat) : wt (s.advance now) ≤ wt s := by
  by_cases hm : s.may true now = 0
  · rw [adv_ok hm]
    have r1 : AdR (s.at_ now) (s.adv1 now) := tmos_R (s.late now) (h.at_ now)
    have r2 := shuts_R ((s.adv1 now).old now) r1.ph (old_nodup _ _) fun a ha => (old_mem ha).1
    have := (r1.trans r2).w
    have h9 : wt (s.at_ now) = wt s := rfl
    omega
  · rw [adv_no hm]; exact Nat.le_refl _
theorem get_w {s : PS} (h : PH s) (who : Int) (now dl : Nat) : wt (s.getS who now dl) ≤ wt s + 1 := by
  by_cases he : getE_ s who now dl = 0
  · exact (get_ev h he).2.1
  · rw [(get_err he).1]; exact Nat.le_succ _
theorem adv_E {s : PS} (h : PH s) (now : Nat) : (s.advance now).E.length ≤ s.E.length + wt s := by
  by_cases hm : s.may true now = 0
  · rw [adv_ok hm]
    have a1 := shuts_E ((s.adv1 now).old now) (s.adv1 now)
    have a2 := (tmo_rest (s.late now) (s.at_ now)).2.2.2.1
    have a3 := (late_perm s now).length_eq
    have a4 := List.length_filter_le (fun x : Qp => decide (x.dl ≤ now)) s.Q
    have a5 := old_len (s.adv1 now) now
    have a6 : (s.adv1 now).C = s.C := (tmo_rest (s.late now) (s.at_ now)).1
    have a7 : (s.adv1 now).E.length = s.E.length + (s.late now).length := a2
    have a8 : (allI 3 (s.adv1 now).C).length = cn 3 s.C := by rw [a6]; exact allF_cn 3 s.C 0
    unfold wt
    omega
  · rw [adv_no hm]; exact Nat.le_add_right _ _
theorem lose_E (s : PS) (c : Nat) : (s.lose c).E.length ≤ s.E.length + 1 := next_E (s.set c ⟨0, 0, 0⟩)
theorem dialed_E (s : PS) (c : Int) (made : Bool) (now : Nat) : (s.dialed c made now).E.length ≤ s.E.length + 1 := by
  unfold PS.dialed
  split
  · omega
  · split
    · exact Nat.le_succ _
    · exact lose_E (s.at_ now) _
theorem put_E (s : PS) (c : Int) (good : Bool) (now : Nat) : (s.put c good now).E.length ≤ s.E.length + 2 := by
  by_cases h : s.inE c 2 now = 0
  · obtain ⟨k, x, rfl, _⟩ := inE_zero h
    have h5 : (((s.at_ now).tell 5 (-1) (k : Int)).lose k).E.length ≤ s.E.length + 2 := by
      have := lose_E ((s.at_ now).tell 5 (-1) (k : Int)) k
      have h6 : ((s.at_ now).tell 5 (-1) (k : Int)).E.length = s.E.length + 1 := by show (s.E ++ [_]).length = _; rw [List.length_append]; rfl
      omega
    cases good with
    | false => rw [put_bad h]; exact h5
    | true =>
      cases hQ : s.Q with
      | cons a r => rw [put_use h hQ]; show (s.E ++ [_]).length ≤ _; rw [List.length_append, List.length_singleton]; omega
      | nil =>
        by_cases hl : (allI 3 s.C).length < s.most
        · rw [put_idle h hQ hl]; show s.E.length ≤ _; omega
        · rw [put_over h hQ hl]; exact h5
  · rw [put_no h]; omega
theorem evS_le {x : PX} (h : PXG x) {b : Nat} (hB : PXB b x) (now : Nat) : evS now x.P ≤ wP x.P := by
  have key : ∀ (L : List PS), (∀ s ∈ L, PH s ∧ s.E = []) → evS now L ≤ wP L := by
    intro L
    induction L with
    | nil => intro _; exact Nat.le_refl _
    | cons s r ih =>
      intro hL
      obtain ⟨h1, h2⟩ := hL s (List.mem_cons_self ..)
      have a := adv_E h1 now
      rw [h2, List.length_nil] at a
      have b := ih fun q hq => hL q (List.mem_cons_of_mem _ hq)
      unfold evS wP at b ⊢
      rw [List.map_cons, List.sum_cons, List.map_cons, List.sum_cons]
      unfold evA at b ⊢
      omega
  refine key x.P fun s hs => ?_
  obtain ⟨j, hj⟩ := List.mem_iff_getElem?.1 hs
  exact ⟨(h.po j s hj).ph, (hB s hs).1⟩
theorem drainL_lat (i : Nat) : ∀ (n : Nat) (x : PX), PXG x → lat (PX.drainL i n x).S ≤ lat x.S
  | 0, _, _ => Nat.le_refl _
  | n + 1, x, h => by
    unfold PX.drainL
    split
    · exact Nat.le_refl _
    · rename_i si hi
      split
      · exact Nat.le_refl _
      · rename_i e r hE
        obtain ⟨hk, g2⟩ := drE_ok h hi hE
        refine Nat.le_trans (drainL_lat i n _ g2) ?_
        rcases hk with hk | ⟨hk, A, s9, B, hS, hw, hst9, _⟩
        · rw [drE_5 hk]; exact Nat.le_refl _
        · have h0 : lat x.S = lat (A ++ B) := by rw [hS, lat_mid, if_neg (by rw [hst9]; decide)]; rfl
          rcases hk with hk | hk | hk
          · rw [drE_1 (x := x.nxP i si) h.nd hS hw.symm hk, h0]
            show lat (A ++ _ :: B) ≤ _
            rw [lat_mid, if_neg (by show ¬ (4 : Int) = 1; decide)]; exact Nat.le_refl _
          · rw [drE_2 (x := x.nxP i si) h.nd hS hw.symm hk, h0]
            show lat (A ++ _ :: B) ≤ _
            rw [lat_mid, if_neg (by show ¬ (3 : Int) = 1; decide)]; exact Nat.le_refl _
          · rw [drE_4 (x := x.nxP i si) h.nd hS hw.symm hk, h0]; exact Nat.le_refl _
theorem drain_lat {x : PX} (h : PXG x) (i : Nat) : lat (x.drain i).S ≤ lat x.S := by obtain ⟨n, e⟩ := drain_eqL x i; rw [e]; exact drainL_lat i n x h
theorem drain_wP {x : PX} {i : Nat} {si : PS} (hi : x.P[i]? = some si) : wP (x.drain i).P = wP x.P := by
  rw [drain_dry hi]
  have := sum_set (f := wt) { si with E := [] } hi
  have h9 : wt { si with E := [] } = wt si := rfl
  unfold wP
  omega
theorem drain_B {x : PX} {b : Nat} {i : Nat} {si : PS} (hi : x.P[i]? = some si) (hB : ∀ (j : Nat) (sj : PS), x.P[j]? = some sj → (j ≠ i → sj.E = []) ∧ sj.n ≤ b) : PXB b (x.drain i) := fun s hs => by
  rw [drain_dry hi] at hs
  obtain ⟨j, hj⟩ := List.mem_iff_getElem?.1 hs
  by_cases e : i = j
  · subst e
    rw [List.getElem?_set_self (List.getElem?_eq_some_iff.1 hi).1] at hj
    rw [← Option.some.inj hj]
    exact ⟨rfl, (hB i si hi).2⟩
  · rw [List.getElem?_set_ne e] at hj
    exact ⟨(hB j s hj).1 (fun q => e q.symm), (hB j s hj).2⟩
theorem lat_fldF {x : PX} (hn : (x.S.map (·.num)).Nodup) {A B : List Ss} {s : Ss} (hS : x.S = A ++ s :: B) : lat (x.fldF s).S ≤ lat (A ++ B) + 1 := by
  rw [fldF_eq hS hn]
  split
  · show lat (A ++ _ :: B) ≤ _
    rw [lat_mid, if_pos (show (x.later s).st = 1 from rfl)]; exact Nat.le_refl _
  · exact Nat.le_succ _
/-- A try weighs one at most. -/
theorem attF_w {x : PX} (h : PXG x) {A B : List Ss} {s : Ss} (hS : x.S = A ++ s :: B) : wX (x.attF s) ≤ wP x.P + lat (A ++ B) + 1 := by
  unfold PX.attF
  by_cases hc : x.b.cand x.now = []
  · rw [if_pos hc]
    have := lat_fldF h.nd hS
    unfold wX
    rw [(fldF_rest (x := x) s).1]; omega
  · rw [if_neg hc]
    cases hsi : x.P[x.pk s]? with
    | none =>
      unfold wX; rw [hS, lat_mid]; dsimp only
      split <;> omega
    | some si =>
      dsimp only
      obtain ⟨p1, _⟩ := attX_fields x s si
      have h1 := sum_set (f := wt) (si.getS s.num x.now s.dl) hsi
      have h2 := get_w (h.po _ si hsi).ph s.num x.now s.dl
      have h9 : ¬ (x.attS s si).st = 1 := by
        by_cases k1 : (x.pv s si).k = 1
        · rw [(attX_1 k1).2]; show ¬ (4 : Int) = 1; decide
        · by_cases k2 : (x.pv s si).k = 2
          · rw [(attX_2 k1 k2).2]; show ¬ (3 : Int) = 1; decide
          · rw [(attX_3 k1 k2).2]; show ¬ (2 : Int) = 1; decide
      have h3 : lat (updS x.S s.num fun _ => x.attS s si) = lat (A ++ B) := by
        rw [updS_at hS h.nd, lat_mid, if_neg h9]; rfl
      show wP (x.attX s si).P + lat (updS x.S s.num fun _ => x.attS s si) ≤ _
      rw [h3, p1]
      unfold wP
      omega
theorem dueF_w {x : PX} (h : PXG x) (now : Nat) {A B : List Ss} {s : Ss} (hS : x.S = A ++ s :: B) (hst : s.st = 1) : wX (x.dueF now s) ≤ wX x := by
  have h0 : wX x = wP x.P + lat (A ++ B) + 1 := by unfold wX; rw [hS, lat_mid, if_pos hst]; omega
  unfold PX.dueF
  split
  · rw [filt_num hS h.nd, h0]
    show wP x.P + lat (A ++ B) ≤ _; omega
  · rw [h0]; exact attF_w h hS
/-- All that is kept. -/
structure PXO (w b e : Nat) (x : PX) : Prop where
  g : PXG x
  w : wX x ≤ w
  b : PXB b x
  e : x.E.length ≤ e
  tr : x.pl.tries ≤ 100
theorem PXO.le {w b e w2 b2 e2 : Nat} {x : PX} (h : PXO w b e x) (h1 : w ≤ w2) (h2 : b ≤ b2) (h3 : e ≤ e2) : PXO w2 b2 e2 x := ⟨h.g, Nat.le_trans h.w h1, fun s hs => ⟨(h.b s hs).1, Nat.le_trans (h.b s hs).2 h2⟩, Nat.le_trans h.e h3, h.tr⟩
theorem PXO.nx {w b e : Nat} {x : PX} (h : PXO w b e x) : PXO w b e x.nx := ⟨⟨h.g.bl, h.g.nd, h.g.ks, h.g.bk, h.g.po⟩, h.w, h.b, by show (x.E.drop 1).length ≤ e; rw [List.length_drop]; have := h.e; omega, h.tr⟩
theorem PXO.cnt {w b e : Nat} {x : PX} (h : PXO w b e x) : ∀ si ∈ x.P, 3 * si.cnt 3 ≤ w := fun si hs => by
  obtain ⟨j, hj⟩ := List.mem_iff_getElem?.1 hs
  have h1 := wP_at hj
  have h2 := h.w
  unfold wX at h2
  rw [cnt_cn]
  unfold wt at h1
  omega
theorem PXG.beg0 {x : PX} (h : PXG x) {n : Int} {now dl : Nat} {key : ByteArray} (p : Nat) (hk : key.size ≤ 64) (hn : x.now ≤ now) (hno : n ∉ x.S.map (·.num)) : PXG (x.beg0 n now dl key p) := by
  refine ⟨Nat.le_trans h.bl hn, ?_, fun s hs => ?_, fun s hs he => ?_, fun i si hi => ?_⟩
  · show ((x.S ++ [newS n dl key p]).map (·.num)).Nodup
    rw [List.map_append, List.nodup_append]
    exact ⟨h.nd, by simp, fun a ha b hb => by simp at hb; rw [hb]; rintro rfl; exact hno ha⟩
  · rcases List.mem_append.1 hs with hs | hs
    · exact h.ks s hs
    · rw [List.mem_singleton.1 hs]; exact ⟨hk, Nat.zero_le _⟩
  · rcases List.mem_append.1 hs with hs | hs
    · exact h.bk s hs he
    · rw [List.mem_singleton.1 hs] at he
      have he : (0 : Int) = 2 ∨ (0 : Int) = 3 ∨ (0 : Int) = 4 := he
      omega
  · have hp := (h.po i si hi).later hn
    exact ⟨hp.ph, hp.nw, hp.nd, hp.ks, fun w hw => by
      obtain ⟨y, hy, r⟩ := hp.wt w hw
      exact ⟨y, List.mem_append_left _ hy, r⟩, fun c y hy hs => by
      rcases hp.dl c y hy hs with ⟨z, hz, r⟩ | q
      · exact .inl ⟨z, List.mem_append_left _ hz, r⟩
      · exact .inr q⟩
theorem PXO.begin {w b e : Nat} {x : PX} (h : PXO w b e x) {n : Int} {now dl : Nat} {key : ByteArray} (p : Nat) (he : x.begE n now dl key = 0) : PXO (w + 1) (b + 1) (e + 1) (x.begin n now dl key p) := by
  obtain ⟨hr, hk, hn1, hn2, hd, hno, hm⟩ := begE_zero he
  have g0 := h.g.beg0 (dl := dl) p hk hn1 hno
  have hS : (x.beg0 n now dl key p).S = x.S ++ newS n dl key p :: [] := rfl
  have hB : PXB b (x.beg0 n now dl key p) := h.b
  obtain ⟨r1, r2, r3, r4, r5⟩ := attF_rest g0 (newS n dl key p) hB
  have hw := attF_w g0 hS
  refine ⟨g0.attF hS (by show (0 : Int) ≠ 2; decide) (by show (0 : Int) ≠ 3; decide) h.tr, ?_, r4, ?_, by rw [show (x.begin n now dl key p).pl = _ from r2]; exact h.tr⟩
  · have := h.w
    unfold wX at this
    rw [List.append_nil] at hw
    have hw : wX (x.begin n now dl key p) ≤ wP x.P + lat x.S + 1 := hw
    omega
  · have := h.e
    have r3 : (x.begin n now dl key p).E.length ≤ x.E.length + 1 := r3
    omega
end Go.Proofs.YtelmlkdibcdebaaGreat
end
section
set_option linter.unusedVariables false
set_option maxRecDepth 20000
set_option maxHeartbeats 1000000
namespace Go.Proofs.YtelmlkdibcdebaaGreat
theorem NoDial.dialed {x : PX} (h : PXG x) {s : Ss} (hs : s ∈ x.S) (hst : s.st = 3) {i : Nat} {si : PS} (hbe : s.be = (i : Int)) (hi : x.P[i]? = some si) {now : Nat} (hn : x.now ≤ now) (hnw : now ≠ 18446744073709551615) : NoDial s.num (x.dial1 s false now i si) := by
  have hil := (List.getElem?_eq_some_iff.1 hi).1
  -- who dials for s, does so by its own connection
  have own : ∀ (j : Nat) (sj : PS), x.P[j]? = some sj → ∀ (c : Nat) (y : Cn), sj.C[c]? = some y → y.st = 1 → y.who = s.num → j = i ∧ s.cn = (c : Int) := fun j sj hj c y hy h1 hw => by
    rcases (h.po j sj hj).dl c y hy h1 with ⟨z, hz, e1, e2, e3, e4⟩ | e
    · have : z = s := uniq_num h.nd hz hs (e1.trans hw)
      subst this
      rw [hbe] at e3
      exact ⟨by omega, e4⟩
    · exact absurd (by rw [← hw]; exact ev_pend e) (h.noPend hs (by rw [hst]; decide) hj)
  refine fun j sj hj y hy h1 hw => ?_
  obtain ⟨c, hc⟩ := List.mem_iff_getElem?.1 hy
  have hj : (x.P.set i (si.dialed s.cn false now))[j]? = some sj := hj
  by_cases e : i = j
  · subst e
    rw [List.getElem?_set_self hil] at hj
    rw [← Option.some.inj hj] at hc
    have hp := h.po i si hi
    rcases (opd_dialed si s.cn false now).dl c y hc h1 with q | q
    · obtain ⟨_, hcn⟩ := own i si hi c y q h1 hw
      have hcl := (List.getElem?_eq_some_iff.1 q).1
      rw [hp.ph.len] at hcl
      have hin : si.inE s.cn 1 now = 0 := by
        have hpn := hp.nw
        refine inE_ok (may_fine (decide_eq_true (by omega)) (by omega)) ?_
        rw [hcn, Int.toNat_natCast, q]
        rintro (e9 | e9)
        · omega
        · exact e9 (by rw [Option.map_some, h1])
      rw [hcn] at hin hc
      rw [dialed_lost hin] at hc
      have hset : ((si.at_ now).set c ⟨0, 0, 0⟩).C[c]? = some ⟨0, 0, 0⟩ := List.getElem?_set_self (by show c < si.C.length; rw [hp.ph.len]; exact hcl)
      rcases (opd_next ((si.at_ now).set c ⟨0, 0, 0⟩)).dl c y hc h1 with q2 | q2
      · rw [hset] at q2
        rw [← Option.some.inj q2] at h1
        exact absurd h1 (by decide)
      · -- it was told of: who waits
        have q3 := ev_pend q2
        have q4 := ((opd_next ((si.at_ now).set c ⟨0, 0, 0⟩)).pend).mem_iff.1 q3
        rw [hw] at q4
        exact h.noPend hs (by rw [hst]; decide) hi q4
    · have q3 := (opd_dialed si s.cn false now).pend.mem_iff.1 (ev_pend q)
      rw [hw] at q3
      exact h.noPend hs (by rw [hst]; decide) hi q3
  · rw [List.getElem?_set_ne e] at hj
    obtain ⟨q, _⟩ := own j sj hj c y hc h1 hw
    exact e q.symm
theorem dial1_B {x : PX} {b : Nat} (hB : PXB b x) (h : PXG x) {s : Ss} {good : Bool} {now i : Nat} {si : PS} (hi : x.P[i]? = some si) : ∀ (j : Nat) (sj : PS), (x.dial1 s good now i si).P[j]? = some sj → (j ≠ i → sj.E = []) ∧ sj.n ≤ b + 1 := fun j sj hj => by
  have hj : (x.P.set i (si.dialed s.cn good now))[j]? = some sj := hj
  by_cases e : i = j
  · subst e
    rw [List.getElem?_set_self (List.getElem?_eq_some_iff.1 hi).1] at hj
    refine ⟨fun q => absurd rfl q, ?_⟩
    rw [← Option.some.inj hj]
    have h1 := (hB si (List.mem_of_getElem? hi)).2
    by_cases he : si.inE s.cn 1 now = 0
    · obtain ⟨k, _, _, _, r⟩ := dialed_R (h.po i si hi).ph he good
      have := r.n; omega
    · rw [dialed_no he]; omega
  · rw [List.getElem?_set_ne e] at hj
    have := hB sj (List.mem_of_getElem? hj)
    exact ⟨fun _ => this.1, by omega⟩
theorem PXO.dialed {w b e : Nat} {x : PX} (h : PXO w b e x) {A B : List Ss} {s : Ss} (hS : x.S = A ++ s :: B) (hst : s.st = 3) (good : Bool) {now : Nat} (hn : x.now ≤ now) (hnw : now ≠ 18446744073709551615) : PXO (w + 1) (b + 1) (e + 3) (x.dialN s good now) := by
  have hs : s ∈ x.S := by rw [hS]; exact List.mem_append_right _ (List.mem_cons_self ..)
  obtain ⟨i, hbe, hil⟩ := h.g.bk s hs (.inr (.inl hst))
  obtain ⟨si, hi⟩ := getE (T := x.P) (i := i) hil
  have hph := (h.g.po i si hi).ph
  have hsE := (h.b si (List.mem_of_getElem? hi)).1
  have g1 := h.g.dial1 s good hi hn
  have hB1 := dial1_B (s := s) (good := good) (now := now) h.b h.g hi
  have hi1 : (x.dial1 s good now i si).P[i]? = some (si.dialed s.cn good now) := List.getElem?_set_self hil
  have hdE := dialed_E si s.cn good now
  rw [hsE, List.length_nil] at hdE
  have hw1 := sum_set (f := wt) (si.dialed s.cn good now) hi
  have hl0 : lat x.S = lat (A ++ B) := by rw [hS, lat_mid, if_neg (by rw [hst]; decide)]; rfl
  have hw0 := h.w
  unfold wX wP at hw0
  have he0 := h.e
  rw [dialN_eq hbe hi]
  cases good with
  | true =>
    rw [if_pos rfl, updS_at hS h.g.nd]
    have hC0 : si.dialed s.cn true now = { si.dialed s.cn true now with E := [] } := by
      have : (si.dialed s.cn true now).E = [] := by
        unfold PS.dialed
        split
        · exact hsE
        · rw [if_pos rfl]; exact hsE
      rw [← this]
    refine ⟨?_, ?_, ?_, ?_, h.tr⟩
    · refine g1.swap (s' := { s with st := 4 }) hS rfl rfl (h.g.ks s hs) (fun _ => ⟨i, hbe, by rw [show (x.dial1 s true now i si).P.length = _ from List.length_set ..]; exact hil⟩) g1.bl rfl fun j sj hj => ?_
      have hj : (x.dial1 s true now i si).P[j]? = some sj := hj
      refine (g1.po j sj hj).chg (n := s.num) (by show OnlyAt s.num x.S _; rw [hS]; exact onlyAt_swap _) (g1.noPend (x := x.dial1 s true now i si) hs (by rw [hst]; decide) hj) fun c y hy h1 hw => ?_
      exfalso
      rcases (g1.po j sj hj).dl c y hy h1 with ⟨z, hz, e1, e2, e3, e4⟩ | q
      · have : z = s := uniq_num h.g.nd hz hs (e1.trans hw)
        subst this
        rw [hbe] at e3
        obtain rfl : i = j := by omega
        rw [hi1] at hj
        have hj := Option.some.inj hj
        rw [← hj] at hy
        rcases (opd_dialed si z.cn true now).dl c y hy h1 with q | q
        · have hp := h.g.po i si hi
          have hcl := (List.getElem?_eq_some_iff.1 q).1
          rw [hp.ph.len] at hcl
          have hpn := hp.nw
          have hin : si.inE z.cn 1 now = 0 := by
            refine inE_ok (may_fine (decide_eq_true (by omega)) (by omega)) ?_
            rw [e4, Int.toNat_natCast, q]
            rintro (e9 | e9)
            · omega
            · exact e9 (by rw [Option.map_some, h1])
          rw [e4] at hin hy
          rw [dialed_made hin] at hy
          have hset : ((si.at_ now).set c ⟨2, 0, 0⟩).C[c]? = some ⟨2, 0, 0⟩ := List.getElem?_set_self (by show c < si.C.length; rw [hp.ph.len]; exact hcl)
          rw [hset] at hy
          rw [← Option.some.inj hy] at h1
          exact absurd h1 (by decide)
        · rw [hC0] at q; cases q
      · exact absurd (by rw [← hw]; exact ev_pend q) (g1.noPend (x := x.dial1 s true now i si) hs (by rw [hst]; decide) hj)
    · have h2 := dialed_w hph s.cn true now
      show ((x.P.set i (si.dialed s.cn true now)).map wt).sum + lat (A ++ _ :: B) ≤ _
      rw [lat_mid, if_neg (by show ¬ (4 : Int) = 1; decide)]
      omega
    · intro sj hj
      obtain ⟨j, hj⟩ := List.mem_iff_getElem?.1 hj
      have hj : (x.dial1 s true now i si).P[j]? = some sj := hj
      have := hB1 j sj hj
      refine ⟨?_, this.2⟩
      by_cases e9 : j = i
      · subst e9
        rw [hi1] at hj
        rw [← Option.some.inj hj, hC0]
      · exact this.1 e9
    · show (x.E ++ [_]).length ≤ _
      rw [List.length_append, List.length_singleton]; omega
  | false =>
    rw [if_neg (by decide)]
    have gd := g1.drain i
    have hs3 : s ∈ ((x.dial1 s false now i si).drain i).S := drain_keep g1 i hs (by rw [hst]; decide)
    obtain ⟨A3, B3, hS3⟩ := List.append_of_mem hs3
    have g3 : PXG { (x.dial1 s false now i si).drain i with b := ((x.dial1 s false now i si).drain i).b.doneX now s.cal false } := by
      refine ⟨?_, gd.nd, gd.ks, gd.bk, gd.po⟩
      have := gd.bl
      rw [drain_now] at this
      show (BS.doneX _ _ _ _).last ≤ ((x.dial1 s false now i si).drain i).now
      rw [drain_now]
      exact doneX_last _ _ _ _ this
    have hnd3 := (NoDial.dialed h.g hs hst hbe hi hn hnw).drain i
    have hpl3 : ((x.dial1 s false now i si).drain i).pl = x.pl := drain_pl _ i
    obtain ⟨r1, r2, r3, r4, r5⟩ := fldF_rest (x := { (x.dial1 s false now i si).drain i with b := ((x.dial1 s false now i si).drain i).b.doneX now s.cal false }) s
    refine ⟨g3.fldF hS3 (by rw [hst]; decide) hnd3 (by show ((x.dial1 s false now i si).drain i).pl.tries ≤ 100; rw [hpl3]; exact h.tr), ?_, ?_, ?_, by rw [r3]; show ((x.dial1 s false now i si).drain i).pl.tries ≤ 100; rw [hpl3]; exact h.tr⟩
    · have h2 := dialed_lost_w hph s.cn now
      have h3 : lat _ ≤ lat (A3 ++ B3) + 1 := lat_fldF g3.nd hS3
      have h4 := drain_lat g1 i
      rw [hS3, lat_mid, if_neg (by rw [hst]; decide)] at h4
      have h4 : lat (A3 ++ B3) + 0 ≤ lat x.S := h4
      have h5 := drain_wP hi1
      have h5 : wP ((x.dial1 s false now i si).drain i).P = ((x.P.set i (si.dialed s.cn false now)).map wt).sum := h5
      unfold wX
      rw [r1]
      show wP ((x.dial1 s false now i si).drain i).P + _ ≤ _
      omega
    · intro sj hj
      rw [r1] at hj
      exact drain_B hi1 hB1 sj hj
    · have h6 : ((x.dial1 s false now i si).drain i).E.length ≤ x.E.length + (si.dialed s.cn false now).E.length := drain_E hi1
      have r4 : _ ≤ ((x.dial1 s false now i si).drain i).E.length + 1 := r4
      omega
theorem PXO.end_ {w b e : Nat} {x : PX} (h : PXO w b e x) {A B : List Ss} {s : Ss} (hS : x.S = A ++ s :: B) (hst : s.st = 4) (good : Bool) {now : Nat} (hn : x.now ≤ now) : PXO (w + 1) (b + 1) (e + 3) (x.endN s good now) := by
  have hs : s ∈ x.S := by rw [hS]; exact List.mem_append_right _ (List.mem_cons_self ..)
  obtain ⟨i, hbe, hil⟩ := h.g.bk s hs (.inr (.inr hst))
  obtain ⟨si, hi⟩ := getE (T := x.P) (i := i) hil
  have hph := (h.g.po i si hi).ph
  have hsE := (h.b si (List.mem_of_getElem? hi)).1
  have hsn := (h.b si (List.mem_of_getElem? hi)).2
  have g1 := h.g.end1 hS hst good hi hn
  have hX : x.endN s good now = PX.drain { x with now := now, P := x.P.set i (si.put s.cn good now), b := x.b.doneX now s.cal good, S := A ++ B } i := by
    rw [endN_eq hbe hi]; unfold PX.end1; rw [filt_num hS h.g.nd]
  have hi1 : (x.P.set i (si.put s.cn good now))[i]? = some (si.put s.cn good now) := List.getElem?_set_self hil
  have hpE := put_E si s.cn good now
  rw [hsE, List.length_nil] at hpE
  have hw1 := sum_set (f := wt) (si.put s.cn good now) hi
  have hl0 : lat x.S = lat (A ++ B) := by rw [hS, lat_mid, if_neg (by rw [hst]; decide)]; rfl
  have hw0 := h.w
  unfold wX wP at hw0
  have he0 := h.e
  rw [hX]
  refine ⟨g1.drain i, ?_, drain_B hi1 fun j sj hj => ?_, ?_, by rw [drain_pl]; exact h.tr⟩
  · have h2 := put_w hph s.cn good now
    have h4 := drain_lat g1 i
    have h4 : lat _ ≤ lat (A ++ B) := h4
    unfold wX
    rw [drain_wP hi1]
    show ((x.P.set i (si.put s.cn good now)).map wt).sum + _ ≤ _
    omega
  · have hj : (x.P.set i (si.put s.cn good now))[j]? = some sj := hj
    by_cases e9 : i = j
    · subst e9
      rw [hi1] at hj
      refine ⟨fun q => absurd rfl q, ?_⟩
      rw [← Option.some.inj hj]
      by_cases he : si.inE s.cn 2 now = 0
      · obtain ⟨k, _, _, _, r⟩ := put_R hph he good
        have := r.n; omega
      · rw [put_no he]; omega
    · rw [List.getElem?_set_ne e9] at hj
      have := h.b sj (List.mem_of_getElem? hj)
      exact ⟨fun _ => this.1, by omega⟩
  · have h6 := drain_E (x := { x with now := now, P := x.P.set i (si.put s.cn good now), b := x.b.doneX now s.cal good, S := A ++ B }) hi1
    have h6 : _ ≤ x.E.length + (si.put s.cn good now).E.length := h6
    omega
theorem advP_w {x : PX} (h : PXG x) (i : Nat) : wX (x.advP x.now i) ≤ wX x := by
  unfold PX.advP
  cases hi : x.P[i]? with
  | none => exact Nat.le_refl _
  | some si =>
    have hp := h.po i si hi
    obtain ⟨a, b⟩ := ph_adv hp.ph hp.nw
    have g1 := h.pool hi (hp.op (opd_adv (pend_who hp) x.now) a b)
    have h1 := sum_set (f := wt) (si.advance x.now) hi
    have h2 := adv_w hp.ph x.now
    have h3 := drain_lat g1 i
    have h4 := drain_wP (x := { x with P := x.P.set i (si.advance x.now) }) (List.getElem?_set_self (List.getElem?_eq_some_iff.1 hi).1)
    have h4 : wP (PX.drain { x with P := x.P.set i (si.advance x.now) } i).P = ((x.P.set i (si.advance x.now)).map wt).sum := h4
    have h3 : lat (PX.drain { x with P := x.P.set i (si.advance x.now) } i).S ≤ lat x.S := h3
    show wP (PX.drain _ i).P + lat (PX.drain _ i).S ≤ wP x.P + lat x.S
    rw [h4]
    unfold wP
    omega
theorem advP_E {x : PX} (i : Nat) : (x.advP x.now i).E.length ≤ x.E.length + (match x.P[i]? with | none => 0 | some si => (si.advance x.now).E.length) := by
  unfold PX.advP
  cases hi : x.P[i]? with
  | none => exact Nat.le_refl _
  | some si => exact drain_E (x := { x with P := x.P.set i (si.advance x.now) }) (List.getElem?_set_self (List.getElem?_eq_some_iff.1 hi).1)
theorem advK_w {x : PX} (h : PXG x) {now : Nat} (hn : x.now ≤ now) : ∀ k, k ≤ x.P.length → wX (x.advK now k) ≤ wX x ∧ (x.advK now k).E.length + evS now (x.P.drop k) ≤ x.E.length + evS now x.P
  | 0, _ => ⟨Nat.le_refl _, Nat.le_refl _⟩
  | k + 1, hk => by
    obtain ⟨a, b⟩ := advK_w h hn k (by omega)
    have g := h.advK hn k
    obtain ⟨f1, f2, f3, f4⟩ := advK_facts x now k
    obtain ⟨si, hsi⟩ := getE (T := x.P) (i := k) (by omega)
    have h1 := advP_w g k
    have h2 := advP_E (x := x.advK now k) k
    rw [f4 k (Nat.le_refl _), hsi] at h2
    dsimp only at h2
    rw [f1] at h1 h2
    have h3 := evS_drop (now := now) hsi
    rw [advK_next]
    omega
theorem PXO.adv {w b e : Nat} {x : PX} (h : PXO w b e x) {now : Nat} (hn : x.now ≤ now) (hnm : ∀ s ∈ x.S, 0 ≤ s.num ∧ s.num ≤ 100) (hnk : ((x.advK now x.P.length).S.map (·.num)).length ≤ 101) : PXO w (b + 102) (e + w + 101) (x.adv now) := by
  have g0 := h.g.advK hn x.P.length
  obtain ⟨w0, e0⟩ := advK_w h.g hn x.P.length (Nat.le_refl _)
  rw [List.drop_length] at e0
  have e0 : (x.advK now x.P.length).E.length + 0 ≤ x.E.length + evS now x.P := e0
  have hev := evS_le h.g h.b now
  have hB0 := advK_B h.g h.b now x.P.length
  obtain ⟨f1, f2, f3, f4⟩ := advK_facts x now x.P.length
  have hdl : (x.advK now x.P.length).due.length ≤ 101 := by
    have a1 := (due_perm (x.advK now x.P.length)).length_eq
    have a2 := List.length_filter_le (fun s : Ss => decide (s.st = 1 ∧ s.til ≤ (x.advK now x.P.length).now)) (x.advK now x.P.length).S
    rw [List.length_map] at hnk
    omega
  have key : ∀ (L : List Ss) (y : PX) (k : Nat), PXG y → y.pl.tries ≤ 100 → PXB (b + 1 + k) y → (L.map (·.num)).Nodup → (∀ s ∈ L, s ∈ y.S ∧ s.st = 1) → PXG (L.foldl (PX.dueF now) y) ∧ wX (L.foldl (PX.dueF now) y) ≤ wX y ∧ PXB (b + 1 + k + L.length) (L.foldl (PX.dueF now) y) ∧ (L.foldl (PX.dueF now) y).E.length ≤ y.E.length + L.length ∧ (L.foldl (PX.dueF now) y).pl.tries ≤ 100 := by
    intro L
    induction L with
    | nil => intro y k g t bb _ _; exact ⟨g, Nat.le_refl _, bb, Nat.le_refl _, t⟩
    | cons s r ih =>
      intro y k g t bb hnd hL
      obtain ⟨hs, hst⟩ := hL s (List.mem_cons_self ..)
      obtain ⟨A, B, hS⟩ := List.append_of_mem hs
      rw [List.map_cons, List.nodup_cons] at hnd
      obtain ⟨r1, r2, r3, r4, r5⟩ := dueF_rest g now s bb
      obtain ⟨q1, q2, q3, q4, q5⟩ := ih (y.dueF now s) (k + 1) (g.dueF now hS hst t) (by rw [r2]; exact t) r4 hnd.2 fun z hz => ⟨dueF_only y now s z (hL z (List.mem_cons_of_mem _ hz)).1 (fun e9 => hnd.1 (by rw [← e9]; exact List.mem_map_of_mem hz)), (hL z (List.mem_cons_of_mem _ hz)).2⟩
      have hw := dueF_w g now hS hst
      rw [List.foldl_cons, List.length_cons]
      exact ⟨q1, Nat.le_trans q2 hw, by rw [show b + 1 + k + (r.length + 1) = b + 1 + (k + 1) + r.length from by omega]; exact q3, by omega, q5⟩
  obtain ⟨q1, q2, q3, q4, q5⟩ := key (x.advK now x.P.length).due (x.advK now x.P.length) 0 g0 (by rw [f2]; exact h.tr) hB0 (due_nodup g0.nd) fun s hs => ⟨(due_mem hs).1, (due_mem hs).2.1⟩
  have hw := h.w
  have he := h.e
  have hwP : wP x.P ≤ wX x := Nat.le_add_right _ _
  exact ⟨q1, Nat.le_trans q2 (Nat.le_trans w0 hw), fun s hs => ⟨(q3 s hs).1, by have := (q3 s hs).2; omega⟩, by show ((x.advK now x.P.length).due.foldl (PX.dueF now) (x.advK now x.P.length)).E.length ≤ _; omega, q5⟩
end Go.Proofs.YtelmlkdibcdebaaGreat
end
section
set_option linter.unusedVariables false
set_option maxRecDepth 20000
set_option maxHeartbeats 1000000
namespace Go.Proofs.YtelmlkdibcdebaaGreat
def PX.dialX (x : PX) (n : Int) (good : Bool) (now : Nat) : PX := if x.inX n 3 now ≠ 0 then x else match x.S.find? (fun s => decide (s.num = n)) with
  | none => x
  | some s => x.dialN s good now
def PX.endX (x : PX) (n : Int) (good : Bool) (now : Nat) : PX := if x.inX n 4 now ≠ 0 then x else match x.S.find? (fun s => decide (s.num = n)) with
  | none => x
  | some s => x.endN s good now
def PX.advX (x : PX) (now : Nat) : PX := if x.may true now ≠ 0 then x else x.adv now
def PX.stX (x : PX) (n : Int) : Int × Int × Int := match x.S.find? (fun s => decide (s.num = n)) with
  | none => (0, -1, -1)
  | some s => (s.st, s.be, s.cn)
def hdX : List Xv → Xv
  | [] => ⟨0, 0, 0, 0, 0⟩
  | e :: _ => e
theorem find_out {S : List Ss} {n : Int} (h : n ∉ S.map (·.num)) : S.find? (fun s => decide (s.num = n)) = none := List.find?_eq_none.2 fun s hs => by
  simp only [decide_eq_true_eq]
  exact fun e => h (by rw [← e]; exact List.mem_map_of_mem hs)
theorem drainL_num {Q : Int → Prop} (i : Nat) : ∀ (n : Nat) (x : PX), PXG x → (∀ s ∈ x.S, Q s.num) → ∀ s ∈ (PX.drainL i n x).S, Q s.num
  | 0, _, _, hq => hq
  | n + 1, x, h, hq => by
    unfold PX.drainL
    split
    · exact hq
    · rename_i si hi
      split
      · exact hq
      · rename_i e r hE
        obtain ⟨hk, g2⟩ := drE_ok h hi hE
        refine drainL_num i n _ g2 ?_
        rcases hk with hk | ⟨hk, A, s9, B, hS, hw, hst9, _⟩
        · rw [drE_5 hk]; exact hq
        · rw [hS] at hq
          have h9 : Q s9.num := hq s9 (List.mem_append_right _ (List.mem_cons_self ..))
          rcases hk with hk | hk | hk
          · rw [drE_1 (x := x.nxP i si) h.nd hS hw.symm hk]
            exact mem_swap (p := fun s => Q s.num) hq _ h9
          · rw [drE_2 (x := x.nxP i si) h.nd hS hw.symm hk]
            exact mem_swap (p := fun s => Q s.num) hq _ h9
          · rw [drE_4 (x := x.nxP i si) h.nd hS hw.symm hk]
            exact mem_drop (p := fun s => Q s.num) hq
theorem drain_num {Q : Int → Prop} {x : PX} (h : PXG x) (i : Nat) (hq : ∀ s ∈ x.S, Q s.num) : ∀ s ∈ (x.drain i).S, Q s.num := by obtain ⟨n, e⟩ := drain_eqL x i; rw [e]; exact drainL_num i n x h hq
theorem advP_num {Q : Int → Prop} {x : PX} (h : PXG x) (i : Nat) (hq : ∀ s ∈ x.S, Q s.num) : ∀ s ∈ (x.advP x.now i).S, Q s.num := by
  unfold PX.advP
  cases hi : x.P[i]? with
  | none => exact hq
  | some si =>
    have hp := h.po i si hi
    obtain ⟨a, b⟩ := ph_adv hp.ph hp.nw
    exact drain_num (h.pool hi (hp.op (opd_adv (pend_who hp) x.now) a b)) i hq
theorem advK_num {Q : Int → Prop} {x : PX} (h : PXG x) {now : Nat} (hn : x.now ≤ now) (hq : ∀ s ∈ x.S, Q s.num) : ∀ k, ∀ s ∈ (x.advK now k).S, Q s.num
  | 0 => hq
  | k + 1 => by
    have ih := advK_num h hn hq k
    have g := h.advK hn k
    have := advP_num g k ih
    rw [(advK_facts x now k).1] at this
    rw [advK_next]; exact this
theorem PXO.b4 {w b e : Nat} {x : PX} (h : PXO w b e x) (hb : b ≤ 1000000) : ∀ si ∈ x.P, si.E.length ≤ 10000 ∧ si.n < 1000000000000 := fun si hi => by
  have := h.b si hi
  rw [this.1]; exact ⟨Nat.zero_le _, by omega⟩
theorem pre2 {a b : Ent} {R : Heap} {F : FuncId} {args : List Value} {v : Value} (h : Spec Tryz.prog F args [a, b] (fun r H' => r = v ∧ H' = [a, b])) : Spec Tryz.prog F args ([a, b] ++ R) (fun r H' => r = v ∧ H' = [a, b] ++ R) :=
  (h.fr R).mono fun r H' ⟨H1, ⟨e1, e2⟩, e3⟩ => ⟨e1, by rw [e3, e2]⟩
theorem pre1 {a : Ent} {R : Heap} {F : FuncId} {args : List Value} {v : Value} (h : Spec Tryz.prog F args [a] (fun r H' => r = v ∧ H' = [a])) : Spec Tryz.prog F args ([a] ++ R) (fun r H' => r = v ∧ H' = [a] ++ R) :=
  (h.fr R).mono fun r H' ⟨H1, ⟨e1, e2⟩, e3⟩ => ⟨e1, by rw [e3, e2]⟩
theorem xl_begin {N : Nat} {m : XM} {x : PX} {w b e : Nat} (h : PXIs N m x) (o : PXO w b e x) (hN : N ≤ 8000) (hE : e ≤ 10000) (hB : b ≤ 1000000) (n : Int) (now dl : Nat) (hb : now ≤ 18446744073709551615) (key : ByteArray) :
    Spec Tryz.prog 12 [ptrP m.p, .int .i64 n, .int .u64 (now : Int), .int .u64 (dl : Int), .string key] (pxH m x) (fun r H' => ∃ m' x', r = .int .i64 (x.begE n now dl key) ∧ H' = pxH m' x' ∧ PXIs (N + 1) m' x' ∧ m'.p = m.p ∧ PXO (w + 1) (b + 1) (e + 1) x' ∧ ((x.begE n now dl key ≠ 0 ∧ x' = x) ∨ (x.begE n now dl key = 0 ∧ ∃ p, x' = x.begin n now dl key p))) := by
  by_cases he : x.begE n now dl key = 0
  · refine (xbegin_ok h o.g (by omega) (Nat.le_trans o.e hE) (o.b4 hB) n now dl hb key he).mono ?_
    rintro r H' ⟨m', p, h1, h2, h3, h4⟩
    exact ⟨m', _, by rw [he]; exact h1, h2, h3, h4, o.begin p he, .inr ⟨he, p, rfl⟩⟩
  · refine (pre2 (R := [pxV m x, pxQ m] ++ (ssH x.S ++ (balH m.bm ++ poolsH m.pm x.P))) (xbegin_bad h n now dl key he)).mono ?_
    rintro r H' ⟨h1, h2⟩
    exact ⟨m, x, h1, h2, h.le (Nat.le_succ N), rfl, o.le (Nat.le_succ _) (Nat.le_succ _) (Nat.le_succ _), .inl ⟨he, rfl⟩⟩
theorem xl_dialed {N : Nat} {m : XM} {x : PX} {w b e : Nat} (h : PXIs N m x) (o : PXO w b e x) (hN : N ≤ 7000) (hE : e ≤ 10000) (n : Int) (good : Bool) (now : Nat) (hb : now ≤ 18446744073709551615) :
    Spec Tryz.prog 13 [ptrP m.p, .int .i64 n, .bool good, .int .u64 (now : Int)] (pxH m x) (fun r H' => ∃ m', r = .int .i64 (x.inX n 3 now) ∧ H' = pxH m' (x.dialX n good now) ∧ PXIs (N + 21) m' (x.dialX n good now) ∧ m'.p = m.p ∧ PXO (w + 1) (b + 1) (e + 3) (x.dialX n good now)) := by
  by_cases he : x.inX n 3 now = 0
  · obtain ⟨A, s, B, hS, rfl, hst, hm, hr, hn1, hn2⟩ := inX_zero he
    have hs : s ∈ x.S := by rw [hS]; exact List.mem_append_right _ (List.mem_cons_self ..)
    have hX : x.dialX s.num good now = x.dialN s good now := by unfold PX.dialX; rw [if_neg (by rw [he]; decide), find_num o.g.nd hs]
    obtain ⟨i, hbe, hil⟩ := o.g.bk s hs (.inr (.inl hst))
    obtain ⟨si, hi⟩ := getE (T := x.P) (i := i) hil
    have hsE := (o.b si (List.mem_of_getElem? hi)).1
    rw [he, hX]
    have oo := o.dialed hS hst good hn1 hn2
    have hdE := dialed_E si s.cn good now
    rw [hsE, List.length_nil] at hdE
    cases good with
    | true =>
      refine (xdialed_made h o.g (by omega) (Nat.le_trans o.e hE) hS hst hb hm hbe hi (by rw [hsE]; exact Nat.zero_le _)).mono ?_
      rintro r H' ⟨m', h1, h2, h3, h4⟩
      exact ⟨m', h1, h2, h3.le (by omega), h4, oo⟩
    | false =>
      refine (xdialed_lost h o.g (by omega) (Nat.le_trans o.e hE) hS hst hb hm hbe hi (by rw [hsE]; exact Nat.zero_le _) (by omega)).mono ?_
      rintro r H' ⟨m', h1, h2, h3, h4⟩
      exact ⟨m', h1, h2, h3, h4, oo⟩
  · have hX : x.dialX n good now = x := by unfold PX.dialX; rw [if_pos he]
    rw [hX]
    refine (xdialed_err h n good now he).mono ?_
    rintro r H' ⟨h1, h2⟩
    exact ⟨m, h1, h2, h.le (by omega), rfl, o.le (by omega) (by omega) (by omega)⟩
theorem xl_end {N : Nat} {m : XM} {x : PX} {w b e : Nat} (h : PXIs N m x) (o : PXO w b e x) (hN : N ≤ 7000) (hE : e ≤ 10000) (n : Int) (good : Bool) (now : Nat) (hb : now ≤ 18446744073709551615) :
    Spec Tryz.prog 14 [ptrP m.p, .int .i64 n, .bool good, .int .u64 (now : Int)] (pxH m x) (fun r H' => ∃ m', r = .int .i64 (x.inX n 4 now) ∧ H' = pxH m' (x.endX n good now) ∧ PXIs (N + 21) m' (x.endX n good now) ∧ m'.p = m.p ∧ PXO (w + 1) (b + 1) (e + 3) (x.endX n good now)) := by
  by_cases he : x.inX n 4 now = 0
  · obtain ⟨A, s, B, hS, rfl, hst, hm, hr, hn1, hn2⟩ := inX_zero he
    have hs : s ∈ x.S := by rw [hS]; exact List.mem_append_right _ (List.mem_cons_self ..)
    have hX : x.endX s.num good now = x.endN s good now := by unfold PX.endX; rw [if_neg (by rw [he]; decide), find_num o.g.nd hs]
    obtain ⟨i, hbe, hil⟩ := o.g.bk s hs (.inr (.inr hst))
    obtain ⟨si, hi⟩ := getE (T := x.P) (i := i) hil
    have hsE := (o.b si (List.mem_of_getElem? hi)).1
    rw [he, hX]
    have oo := o.end_ hS hst good hn1
    have hdE := put_E si s.cn good now
    rw [hsE, List.length_nil] at hdE
    refine (xend_ok h o.g (by omega) (Nat.le_trans o.e hE) hS hst good hb hm hbe hi (by rw [hsE]; exact Nat.zero_le _) (by omega)).mono ?_
    rintro r H' ⟨m', h1, h2, h3, h4⟩
    exact ⟨m', h1, h2, h3, h4, oo⟩
  · have hX : x.endX n good now = x := by unfold PX.endX; rw [if_pos he]
    rw [hX]
    refine (xend_err h n good now he).mono ?_
    rintro r H' ⟨h1, h2⟩
    exact ⟨m, h1, h2, h.le (by omega), rfl, o.le (by omega) (by omega) (by omega)⟩
theorem xl_adv {N : Nat} {m : XM} {x : PX} {w b e : Nat} (h : PXIs N m x) (o : PXO w b e x) (hN : N ≤ 7000) (hw : w ≤ 57) (hE : e ≤ 10000) (hB : b ≤ 1000000) (hP : x.P.length ≤ 100) (now : Nat) (hb : now ≤ 18446744073709551615) :
    Spec Tryz.prog 15 [ptrP m.p, .int .u64 (now : Int)] (pxH m x) (fun r H' => ∃ m', r = .int .i64 (x.may true now) ∧ H' = pxH m' (x.advX now) ∧ PXIs (N + w + 101) m' (x.advX now) ∧ m'.p = m.p ∧ PXO w (b + 102) (e + w + 101) (x.advX now)) := by
  by_cases he : x.may true now = 0
  · have hX : x.advX now = x.adv now := by unfold PX.advX; rw [if_neg (by rw [he]; decide)]
    obtain ⟨_, hn1, hn2⟩ := xmay_zero_of he
    have hev := evS_le o.g o.b now
    have hww := o.w
    have hwP : wP x.P ≤ wX x := Nat.le_add_right _ _
    rw [he, hX]
    refine (xadv_ok h o.g now hb he (Nat.le_trans o.e hE) hP o.b (by omega) (fun si hs => by have := o.cnt si hs; omega) (by omega)).mono ?_
    rintro r H' ⟨m', N', h1, h2, h3, h4, h5⟩
    refine ⟨m', h1, h2, h4.le (by omega), h5, o.adv hn1 h.num ?_⟩
    rw [List.length_map]
    exact nums_len (o.g.advK hn1 x.P.length).nd (advK_num (Q := fun n => 0 ≤ n ∧ n ≤ 100) o.g hn1 h.num x.P.length)
  · have hX : x.advX now = x := by unfold PX.advX; rw [if_pos he]
    rw [hX]
    refine (pre1 (R := [pxM m, pxV m x, pxQ m] ++ (ssH x.S ++ (balH m.bm ++ poolsH m.pm x.P))) (xadv_err m x now he)).mono ?_
    rintro r H' ⟨h1, h2⟩
    exact ⟨m, h1, h2, h.le (by omega), rfl, o.le (by omega) (by omega) (by omega)⟩
end Go.Proofs.YtelmlkdibcdebaaGreat
end
section
set_option linter.unusedVariables false
set_option maxRecDepth 20000
set_option maxHeartbeats 2000000
namespace Go.Proofs.YtelmlkdibcdebaaGreat
theorem xl_next {N : Nat} {m : XM} {x : PX} (h : PXIs N m x) : Spec Tryz.prog 20 [ptrP m.p] (pxH m x) (fun r H' => ∃ m', r = .tuple #[xvV (hdX x.E), .bool (!x.E.isEmpty)] ∧ H' = pxH m' x.nx ∧ PXIs N m' x.nx ∧ m'.p = m.p) := by
  cases hE : x.E with
  | nil =>
    have hX : x.nx = x := by unfold PX.nx; rw [hE]; show { x with E := [] } = x; rw [← hE]
    rw [hX]
    refine (pre1 (R := [pxM m, pxV m x, pxQ m] ++ (ssH x.S ++ (balH m.bm ++ poolsH m.pm x.P))) (xnext_none m x hE)).mono ?_
    rintro r H' ⟨h1, h2⟩
    exact ⟨m, h1, h2, h, rfl⟩
  | cons v q =>
    refine Spec.re ((((xnext_some m x h.eO hE).fr ([pxM m, pxQ m] ++ (ssH x.S ++ (balH m.bm ++ poolsH m.pm x.P)))).perm (List.Perm.cons _ (List.Perm.swap _ _ _))).mono ?_)
    rintro r H' ⟨H1, ⟨ek, ec, epre, hr, rfl, hO⟩, rfl⟩
    exact ⟨pxH { m with ek := ek, ec := ec, epre := epre } x.nx, List.Perm.cons _ (List.Perm.swap _ _ _), _, hr, rfl, ⟨h.bal, h.len, h.po, h.oq, h.mp, hO, h.ok, h.seed, h.num, h.vl, h.now⟩, rfl⟩
theorem xl_state {N : Nat} {m : XM} {x : PX} (h : PXIs N m x) (n : Int) : Spec Tryz.prog 18 [ptrP m.p, .int .i64 n] (pxH m x) (fun r H' => r = .tuple #[.int .i64 (x.stX n).1, .int .i64 (x.stX n).2.1, .int .i64 (x.stX n).2.2] ∧ H' = pxH m x) := by
  by_cases hin : n ∈ x.S.map (·.num)
  · obtain ⟨s, hs, rfl⟩ := List.mem_map.1 hin
    have hnd : (x.S.map (·.num)).Nodup := by rw [← sesM_keys]; exact h.mp.nodup
    have hX : x.stX s.num = (s.st, s.be, s.cn) := by unfold PX.stX; rw [find_num hnd hs]
    obtain ⟨A, B, hS⟩ := List.append_of_mem hs
    have hperm : (ssH x.S).Perm (seE s :: ssH (A ++ B)) := by rw [hS]; exact ssH_split A B s
    rw [hX]
    refine Spec.re ((((xstate_in m x h.mp s (List.mem_map_of_mem (f := fun s : Ss => (s.num, s.p)) hs)).fr _).perm (px_perm5 hperm)).mono ?_)
    rintro r H' ⟨H1, ⟨hr, rfl⟩, rfl⟩
    exact ⟨pxH m x, (px_perm5 hperm).symm, hr, rfl⟩
  · have hX : x.stX n = (0, -1, -1) := by unfold PX.stX; rw [find_out hin]
    rw [hX]
    exact pre2 (R := [pxV m x, pxQ m] ++ (ssH x.S ++ (balH m.bm ++ poolsH m.pm x.P))) (xstate_out m x h.mp n (by rw [sesM_keys]; exact hin))
theorem lis_ok {N : Nat} {m : XM} {x : PX} (h : PXIs N m x) (n st be cn : Int) : Spec Tryz.prog 21 [ptrP m.p, .int .i64 n, .int .i64 st, .int .i64 be, .int .i64 cn] (pxH m x) (fun r H' => r = .bool (decide (x.stX n = (st, be, cn))) ∧ H' = pxH m x) := by
  have key : (x.stX n = (st, be, cn)) ↔ (x.stX n).1 = st ∧ (x.stX n).2.1 = be ∧ (x.stX n).2.2 = cn := by
    rcases x.stX n with ⟨a, b, c⟩
    simp
  rw [decide_eq_decide.2 key]
  refine Spec.of (E := [(0, ptrP m.p), (1, .int .i64 n), (2, .int .i64 st), (3, .int .i64 be), (4, .int .i64 cn)]) Tryz.func21 rfl (by kernel_rfl) Tryz.ntmps21 rfl rfl (fun w => ?_)
  refine WC_seq ?_
  refine WC_region ?_
  refine WL_val rfl rfl rfl (R_assign rfl rfl) ?_
  refine WL_nil ?_
  refine WQ_code ?_
  refine WC_seq ?_
  refine WC_region ?_
  refine WL_val rfl rfl rfl (R_move rfl rfl) ?_
  refine WL_val rfl rfl rfl (R_move rfl rfl) ?_
  refine WL_do rfl rfl rfl (D_call (xl_state h n) rfl rfl rfl rfl (pqD)) ?_
  rintro _ _ ⟨_, ⟨rfl, rfl⟩, rfl⟩
  refine WL_val rfl rfl rfl (R_move rfl rfl) ?_
  refine WL_val rfl rfl rfl (R_extract rfl rfl rfl) ?_
  refine WL_val rfl rfl rfl (R_extract rfl rfl rfl) ?_
  refine WL_val rfl rfl rfl (R_extract rfl rfl rfl) ?_
  refine WL_val rfl rfl rfl (R_assign rfl rfl) ?_
  refine WL_val rfl rfl rfl (R_assign rfl rfl) ?_
  refine WL_val rfl rfl rfl (R_assign rfl rfl) ?_
  refine WL_nil ?_
  refine WQ_code ?_
  refine WC_seq ?_
  refine WC_region ?_
  refine WL_val rfl rfl rfl (R_move rfl rfl) ?_
  refine WL_val rfl rfl rfl (R_move rfl rfl) ?_
  refine WL_val rfl rfl rfl (R_eql rfl rfl rfl) ?_
  refine WL_val rfl rfl rfl (R_move rfl rfl) ?_
  refine WL_splitD (s := 24) rfl (fun c1 => ?_) (fun c1 => ?_)
  · have hg1 := c1
    refine WL_val rfl rfl rfl (R_move rfl rfl) ?_
    refine WL_val rfl rfl rfl (R_move rfl rfl) ?_
    refine WL_val rfl rfl rfl (R_eql rfl rfl rfl) ?_
    refine WL_val rfl rfl rfl (R_pickT rfl rfl rfl) ?_
    refine WL_val rfl rfl rfl (R_move rfl rfl) ?_
    refine WL_splitD (s := 29) rfl (fun c2 => ?_) (fun c2 => ?_)
    · have hg2 := c2
      refine WL_val rfl rfl rfl (R_move rfl rfl) ?_
      refine WL_val rfl rfl rfl (R_move rfl rfl) ?_
      refine WL_val rfl rfl rfl (R_eql rfl rfl rfl) ?_
      refine WL_val rfl rfl rfl (R_pickT rfl rfl rfl) ?_
      refine WL_val rfl rfl rfl (R_assign rfl rfl) ?_
      refine WL_nil ?_
      refine WQ_code ?_
      refine WC_ret ?_
      refine WQ_ret rfl rfl (.cons (.tmp rfl) .nil) rfl (by
          first | exact ⟨congrArg Value.bool (decide_eq_decide.2 (by omega)), rfl⟩ | exact ⟨congrArg Value.bool (decide_eq_false (by omega)).symm, rfl⟩ | exact ⟨congrArg Value.bool (by simp_all), rfl⟩) (pqD)
    · have hg2 := c2
      refine WL_skip rfl rfl rfl ?_
      refine WL_skip rfl rfl rfl ?_
      refine WL_skip rfl rfl rfl ?_
      refine WL_val rfl rfl rfl (R_pickF rfl rfl rfl) ?_
      refine WL_val rfl rfl rfl (R_assign rfl rfl) ?_
      refine WL_nil ?_
      refine WQ_code ?_
      refine WC_ret ?_
      refine WQ_ret rfl rfl (.cons (.tmp rfl) .nil) rfl (by
          first | exact ⟨congrArg Value.bool (decide_eq_decide.2 (by omega)), rfl⟩ | exact ⟨congrArg Value.bool (decide_eq_false (by omega)).symm, rfl⟩ | exact ⟨congrArg Value.bool (by simp_all), rfl⟩) (pqD)
  · have hg1 := c1
    refine WL_skip rfl rfl rfl ?_
    refine WL_skip rfl rfl rfl ?_
    refine WL_skip rfl rfl rfl ?_
    refine WL_val rfl rfl rfl (R_pickF rfl rfl rfl) ?_
    refine WL_val rfl rfl rfl (R_move rfl rfl) ?_
    refine WL_skip rfl rfl rfl ?_
    refine WL_skip rfl rfl rfl ?_
    refine WL_skip rfl rfl rfl ?_
    refine WL_val rfl rfl rfl (R_pickF rfl rfl rfl) ?_
    refine WL_val rfl rfl rfl (R_assign rfl rfl) ?_
    refine WL_nil ?_
    refine WQ_code ?_
    refine WC_ret ?_
    refine WQ_ret rfl rfl (.cons (.tmp rfl) .nil) rfl (by
        first | exact ⟨congrArg Value.bool (decide_eq_decide.2 (by omega)), rfl⟩ | exact ⟨congrArg Value.bool (decide_eq_false (by omega)).symm, rfl⟩ | exact ⟨congrArg Value.bool (by simp_all), rfl⟩) (pqD)
theorem ltells_ok {N : Nat} {m : XM} {x : PX} (h : PXIs N m x) {k s b c e : Int} {r : List Xv} (hE : x.E = ⟨k, s, b, c, e⟩ :: r) : Spec Tryz.prog 25 [ptrP m.p, .int .i64 k, .int .i64 s, .int .i64 b, .int .i64 c, .int .i64 e] (pxH m x) (fun r H' => ∃ m', r = .bool true ∧ H' = pxH m' x.nx ∧ PXIs N m' x.nx ∧ m'.p = m.p) := by
  refine Spec.of (E := [(0, ptrP m.p), (1, .int .i64 k), (2, .int .i64 s), (3, .int .i64 b), (4, .int .i64 c), (5, .int .i64 e)]) Tryz.func25 rfl (by kernel_rfl) Tryz.ntmps25 rfl rfl (fun w => ?_)
  refine WC_seq ?_
  refine WC_region ?_
  refine WL_val rfl rfl rfl (R_assign rfl rfl) ?_
  refine WL_nil ?_
  refine WQ_code ?_
  refine WC_seq ?_
  refine WC_region ?_
  refine WL_val rfl rfl rfl (R_move rfl rfl) ?_
  refine WL_do rfl rfl rfl (D_call (xl_next h) rfl rfl rfl rfl (pqD)) ?_
  rintro _ _ ⟨_, ⟨m1, rfl, rfl, h1, hp1⟩, rfl⟩
  rw [hE]
  refine WL_val rfl rfl rfl (R_move rfl rfl) ?_
  refine WL_val rfl rfl rfl (R_extract rfl rfl rfl) ?_
  refine WL_val rfl rfl rfl (R_extract rfl rfl rfl) ?_
  refine WL_do rfl rfl rfl (D_alloc rfl zv63) ?_
  rintro _ _ ⟨b1, rfl, rfl⟩
  refine WL_do0 rfl rfl (D_store (vs := [_, _, _, _, _]) rfl Tryz.sizeOf63 rfl rfl rfl rfl rfl (plD) (by exact Nat.le_of_ble_eq_true rfl)) ?_
  rintro _ _ rfl
  refine WL_val rfl rfl rfl (R_assign rfl rfl) ?_
  refine WL_set (s := 14) (v := .bool true) rfl (by rfl) ?_
  refine WL_nil ?_
  refine WQ_code ?_
  refine WC_seq ?_
  refine WC_region ?_
  refine WL_val rfl rfl rfl (R_move rfl rfl) ?_
  refine WL_val rfl rfl rfl (R_move rfl rfl) ?_
  refine WL_val rfl rfl rfl (R_loadA (vs := [_, _, _, _, _]) rfl ag63 rfl (mmD) rfl (atZ)) ?_
  refine WL_val rfl rfl rfl (R_move rfl rfl) ?_
  refine WL_val rfl rfl rfl (R_move rfl rfl) ?_
  refine WL_val rfl rfl rfl (R_move rfl rfl) ?_
  refine WL_val rfl rfl rfl (R_move rfl rfl) ?_
  refine WL_val rfl rfl rfl (R_move rfl rfl) ?_
  refine WL_val rfl rfl rfl (R_build rfl zv63 pl63 rfl rfl) ?_
  refine WL_val rfl rfl rfl (R_seq63 rfl rfl rfl rfl) ?_
  refine WL_val rfl rfl rfl (R_pickT rfl rfl rfl) ?_
  refine WL_set (s := 30) (v := .bool true) rfl (by exact congrArg Value.bool (by simp [hdX])) ?_
  refine WL_val rfl rfl rfl (R_assign rfl rfl) ?_
  refine WL_nil ?_
  refine WQ_code ?_
  refine WC_ret ?_
  refine WQ_ret rfl rfl (.cons (.tmp rfl) .nil) rfl (by
      exact ⟨m1, rfl, rfl, h1, hp1⟩) (pqD)
theorem lsett_ok : Spec Tryz.prog 24 [] [] (fun r H' => ∃ b, r = .agg (xsetL 1 (some ⟨b, 0, none⟩) 2 2 1 100 1 1 18446744073709551615 ⟨5, 5, 1, 1, 2, 0, 0⟩).toArray ∧ H' = [⟨some b, cl (ivs [1, 1]) 3⟩]) := by
  refine Spec.of (E := []) Tryz.func24 rfl (by kernel_rfl) Tryz.ntmps24 rfl rfl (fun w => ?_)
  refine WC_seq ?_
  refine WC_region ?_
  refine WL_do rfl rfl rfl (D_alloc rfl zv30) ?_
  rintro _ _ ⟨b1, rfl, rfl⟩
  refine WL_nil ?_
  refine WQ_code ?_
  refine WC_seq ?_
  refine WC_region ?_
  refine WL_do rfl rfl rfl (D_buildSlice rfl si23 rfl rfl rfl) ?_
  rintro _ _ ⟨b2, rfl, rfl⟩
  refine WL_val rfl rfl rfl (R_build rfl zv28 pl28 rfl rfl) ?_
  refine WL_val rfl rfl rfl (R_build rfl zv30 pl30 rfl rfl) ?_
  refine WL_do0 rfl rfl (D_store (vs := [_, _, _, _, _, _, _, _, _, _, _, _, _, _]) rfl Tryz.sizeOf30 rfl rfl rfl rfl rfl (plD) (by exact Nat.le_of_ble_eq_true rfl)) ?_
  rintro _ _ rfl
  refine WL_nil ?_
  refine WQ_code ?_
  refine WC_ret ?_
  refine WQ_ret rfl rfl (.cons (.cell (vs := [_, _, _, _, _, _, _, _, _, _, _, _, _, _]) rfl ag30 (mmD) rfl (atZ)) .nil) rfl (by
      exact ⟨b2, rfl, rfl⟩) (pqD)
theorem PXO.new {k : Nat} {W : List Int} {limit : Int} {brk : Nat} {op idle : Int} {keep : Nat} {p : Plan} (hp : OkP p) (hq : POk op idle keep) : PXO 0 0 0 (px0 k W limit brk op idle keep p) := by
  have hC : ∀ x ∈ (PS.new op.toNat idle.toNat keep).C, x.st = 0 := fun x hx => by rw [List.eq_of_mem_replicate hx]
  refine ⟨⟨Nat.le_refl _, List.nodup_nil, fun s hs => (by cases hs), fun s hs => (by cases hs), fun i si hi => ?_⟩, ?_, fun si hs => ?_, Nat.le_refl _, ?_⟩
  · have := List.mem_of_getElem? hi
    rw [List.eq_of_mem_replicate this]
    exact ⟨ph_new (by obtain ⟨a, b, c⟩ := hq; omega) (by obtain ⟨a, b, c⟩ := hq; omega), Nat.le_refl _, List.nodup_nil, fun e he => (by cases he), fun w hw => (by cases hw), fun c x hx hs => absurd (hC x (List.mem_of_getElem? hx)) (by rw [hs]; decide)⟩
  · show ((List.replicate W.length (PS.new op.toNat idle.toNat keep)).map wt).sum + 0 ≤ 0
    rw [List.map_replicate, wt_new]
    simp
  · rw [List.eq_of_mem_replicate hs]; exact ⟨rfl, Nat.le_refl _⟩
  · obtain ⟨q1, q2, q3, q4, q5, q6, q7, q8, q9, q10⟩ := hp; exact q8
end Go.Proofs.YtelmlkdibcdebaaGreat
end
section
set_option linter.unusedVariables false
set_option maxRecDepth 20000
set_option maxHeartbeats 1000000
namespace Go.Proofs.YtelmlkdibcdebaaGreat
theorem adv_evalP {s s1 : PS} {now : Nat} {L : List Qp} {O : List Int} (hm : s.may true now = 0) (hl : s.Q.filter (fun x => decide (x.dl ≤ now)) = L) (hl1 : L.length ≤ 1) (h1 : L.foldl PS.tmo (s.at_ now) = s1) (ho : (allI 3 s1.C).filter (fun a => !young s1 now a) = O) (ho1 : O.length ≤ 1) : s.advance now = O.foldl PS.shut s1 := by
  have e1 : s.late now = L := by
    unfold PS.late
    rw [hl]
    match L, hl1 with
    | [], _ => simp
    | [x], _ => simp
  have e2 : s.adv1 now = s1 := by unfold PS.adv1; rw [e1, h1]
  have e3 : s1.old now = O := by
    unfold PS.old
    rw [ho]
    match O, ho1 with
    | [], _ => simp
    | [x], _ => simp
  rw [adv_ok hm, e2, e3]
theorem adv2_eval {x : PX} {now : Nat} {q0 q1 r0 r1 : PS} (hP : x.P = [q0, q1]) (h0 : q0.advance now = r0) (h1 : q1.advance now = r1) {y1 y2 : PX} (e1 : PX.drain { x with now := now, P := [r0, q1] } 0 = y1) (hy : y1.P[1]? = some q1) (e2 : PX.drain { y1 with P := y1.P.set 1 r1 } 1 = y2) {D : List Ss} (hD : y2.S.filter (fun s => decide (s.st = 1 ∧ s.til ≤ y2.now)) = D) (hl : D.length ≤ 1) : x.adv now = D.foldl (PX.dueF now) y2 := by
  have a1 : PX.advP now { x with now := now } 0 = y1 := by
    unfold PX.advP
    show (match x.P[0]? with | none => _ | some si => _) = _
    rw [hP]
    show PX.drain { x with now := now, P := [q0.advance now, q1] } 0 = y1
    rw [h0]; exact e1
  have a2 : PX.advP now y1 1 = y2 := by
    unfold PX.advP
    rw [hy]
    dsimp only
    rw [h1]; exact e2
  have a3 : x.advK now x.P.length = y2 := by
    have : x.P.length = 2 := by rw [hP]; rfl
    rw [this]
    show PX.advP now (PX.advP now { x with now := now } 0) 1 = y2
    rw [a1, a2]
  have a4 : y2.due = D := by
    unfold PX.due
    rw [hD]
    match D, hl with
    | [], _ => simp
    | [x], _ => simp
  unfold PX.adv
  rw [a3, a4]
abbrev kb : ByteArray := ⟨#[107]⟩
abbrev kpl : Plan := ⟨5, 5, 1, 1, 2, 0, 0⟩
abbrev kv (act : Int) (last : Nat) (gen st : Int) (opened : Nat) : Vw := (1, 0, act, true, ⟨1, 1, 100, last, gen, st, opened, 0, 0, 0⟩)
abbrev kq (now : Nat) (x : Cn) (Q : List Qp) (n : Nat) : PS := ⟨1, 1, 18446744073709551615, now, x :: List.replicate 63 ⟨0, 0, 0⟩, Q, n, []⟩
abbrev kx0 : PX := ⟨⟨1, [kv 0 0 0 0 0, kv 0 0 0 0 0], 0, 0, 0, []⟩, [kq 0 ⟨0, 0, 0⟩ [] 0, kq 0 ⟨0, 0, 0⟩ [] 0], kpl, 0, [], []⟩
abbrev kx1 (p : Nat) : PX := ⟨⟨1, [kv 1 0 0 0 0, kv 0 0 0 0 0], 1, 1, 0, [(1, (0, 0))]⟩, [kq 0 ⟨1, 7, 0⟩ [] 0, kq 0 ⟨0, 0, 0⟩ [] 0], kpl, 0, [⟨7, kb, 50, 0, 3, 0, 1, 0, 0, p⟩], [⟨2, 7, 0, 0, 0⟩]⟩
abbrev kx2 (p : Nat) : PX := ⟨⟨1, [kv 1 0 0 0 0, kv 0 0 0 0 0], 1, 1, 0, [(1, (0, 0))]⟩, [kq 0 ⟨1, 7, 0⟩ [] 0, kq 0 ⟨0, 0, 0⟩ [] 0], kpl, 0, [⟨7, kb, 50, 0, 3, 0, 1, 0, 0, p⟩], []⟩
abbrev kx3 (p : Nat) : PX := ⟨⟨1, [kv 1 0 0 0 0, kv 0 0 0 0 0], 1, 1, 0, [(1, (0, 0))]⟩, [kq 1 ⟨2, 0, 0⟩ [] 0, kq 0 ⟨0, 0, 0⟩ [] 0], kpl, 1, [⟨7, kb, 50, 0, 4, 0, 1, 0, 0, p⟩], [⟨1, 7, 0, 0, 0⟩]⟩
abbrev kx4 (p : Nat) : PX := ⟨⟨1, [kv 1 0 0 0 0, kv 0 0 0 0 0], 1, 1, 0, [(1, (0, 0))]⟩, [kq 1 ⟨2, 0, 0⟩ [] 0, kq 0 ⟨0, 0, 0⟩ [] 0], kpl, 1, [⟨7, kb, 50, 0, 4, 0, 1, 0, 0, p⟩], []⟩
abbrev kx5 (p q : Nat) : PX := ⟨⟨1, [kv 1 0 0 0 0, kv 1 1 0 0 0], 0, 2, 1, [(2, (1, 0)), (1, (0, 0))]⟩, [kq 1 ⟨2, 0, 0⟩ [] 0, kq 1 ⟨1, 8, 0⟩ [] 0], kpl, 1, [⟨7, kb, 50, 0, 4, 0, 1, 0, 0, p⟩, ⟨8, kb, 50, 0, 3, 0, 2, 1, 0, q⟩], [⟨2, 8, 1, 0, 0⟩]⟩
abbrev kx6 (p q : Nat) : PX := ⟨⟨1, [kv 1 0 0 0 0, kv 1 1 0 0 0], 0, 2, 1, [(2, (1, 0)), (1, (0, 0))]⟩, [kq 1 ⟨2, 0, 0⟩ [] 0, kq 1 ⟨1, 8, 0⟩ [] 0], kpl, 1, [⟨7, kb, 50, 0, 4, 0, 1, 0, 0, p⟩, ⟨8, kb, 50, 0, 3, 0, 2, 1, 0, q⟩], []⟩
abbrev kx7 (p q : Nat) : PX := ⟨⟨1, [kv 1 0 0 0 0, kv 0 2 1 1 2], 0, 2, 2, [(1, (0, 0))]⟩, [kq 1 ⟨2, 0, 0⟩ [] 0, kq 2 ⟨0, 0, 0⟩ [] 0], kpl, 2, [⟨7, kb, 50, 0, 4, 0, 1, 0, 0, p⟩, ⟨8, kb, 50, 1, 1, 7, 0, -1, -1, q⟩], []⟩
abbrev kx8 (p q : Nat) : PX := ⟨⟨1, [kv 2 7 0 0 0, kv 0 2 1 1 2], 1, 3, 7, [(3, (0, 0)), (1, (0, 0))]⟩, [kq 7 ⟨2, 0, 0⟩ [⟨1, 8, 50⟩] 1, kq 7 ⟨0, 0, 0⟩ [] 0], kpl, 7, [⟨7, kb, 50, 0, 4, 0, 1, 0, 0, p⟩, ⟨8, kb, 50, 1, 2, 7, 3, 0, -1, q⟩], []⟩
abbrev kx9 (q : Nat) : PX := ⟨⟨1, [kv 1 8 0 0 0, kv 0 2 1 1 2], 1, 3, 8, [(3, (0, 0))]⟩, [kq 8 ⟨2, 0, 0⟩ [] 1, kq 7 ⟨0, 0, 0⟩ [] 0], kpl, 8, [⟨8, kb, 50, 1, 4, 7, 3, 0, 0, q⟩], [⟨1, 8, 0, 0, 0⟩]⟩
abbrev kx10 (q : Nat) : PX := ⟨⟨1, [kv 1 8 0 0 0, kv 0 2 1 1 2], 1, 3, 8, [(3, (0, 0))]⟩, [kq 8 ⟨2, 0, 0⟩ [] 1, kq 7 ⟨0, 0, 0⟩ [] 0], kpl, 8, [⟨8, kb, 50, 1, 4, 7, 3, 0, 0, q⟩], []⟩
abbrev kx11 (q r : Nat) : PX := ⟨⟨1, [kv 2 8 0 0 0, kv 0 2 1 1 2], 1, 4, 8, [(4, (0, 0)), (3, (0, 0))]⟩, [kq 8 ⟨2, 0, 0⟩ [⟨2, 9, 20⟩] 2, kq 7 ⟨0, 0, 0⟩ [] 0], kpl, 8, [⟨8, kb, 50, 1, 4, 7, 3, 0, 0, q⟩, ⟨9, kb, 20, 0, 2, 0, 4, 0, -1, r⟩], []⟩
abbrev kx12 (q : Nat) : PX := ⟨⟨1, [kv 1 20 0 0 0, kv 0 2 1 1 2], 1, 4, 20, [(3, (0, 0))]⟩, [kq 20 ⟨2, 0, 0⟩ [] 2, kq 20 ⟨0, 0, 0⟩ [] 0], kpl, 20, [⟨8, kb, 50, 1, 4, 7, 3, 0, 0, q⟩], [⟨3, 9, -1, -1, 12⟩]⟩
theorem kx0_eq : px0 1 [1, 1] 1 100 1 1 18446744073709551615 ⟨5, 5, 1, 1, 2, 0, 0⟩ = kx0 := by kernel_rfl
theorem kx1_eq (p : Nat) : kx0.begin 7 0 50 kb p = kx1 p := by kernel_rfl
theorem kx2_eq (p : Nat) : (kx1 p).nx = kx2 p := by kernel_rfl
theorem kx3_eq (p : Nat) : (kx2 p).dialX 7 true 1 = kx3 p := by kernel_rfl
theorem kx4_eq (p : Nat) : (kx3 p).nx = kx4 p := by kernel_rfl
theorem kx5_eq (p q : Nat) : (kx4 p).begin 8 1 50 kb q = kx5 p q := by kernel_rfl
theorem kx6_eq (p q : Nat) : (kx5 p q).nx = kx6 p q := by kernel_rfl
theorem kx7_eq (p q : Nat) : (kx6 p q).dialX 8 false 2 = kx7 p q := by kernel_rfl
theorem kx7_nx (p q : Nat) : (kx7 p q).nx = kx7 p q := by kernel_rfl
theorem kx9_eq (p q : Nat) : (kx8 p q).endX 7 true 8 = kx9 q := by kernel_rfl
theorem kx10_eq (q : Nat) : (kx9 q).nx = kx10 q := by kernel_rfl
theorem kx11_eq (q r : Nat) : (kx10 q).begin 9 8 20 kb r = kx11 q r := by kernel_rfl
theorem kq_adv (now : Nat) (h : now ≠ 18446744073709551615) (t n : Nat) (c : Cn) (ht : t ≤ now) (hc : c.st = 2 ∨ c.st = 0) : (kq t c [] n).advance now = kq now c [] n := by
  have ha : allI 3 (kq now c [] n).C = [] := by
    have : ∀ (m : Nat) (k : Nat), allF 3 k (List.replicate m ⟨0, 0, 0⟩) = [] := by
      intro m
      induction m with
      | zero => intro k; rfl
      | succ m ih => intro k; rw [List.replicate_succ, allF, if_neg (by decide)]; exact ih _
    show allF 3 0 (c :: List.replicate 63 ⟨0, 0, 0⟩) = []
    rw [allF, if_neg (by omega)]
    exact this 63 1
  rw [adv_evalP (L := []) (O := []) (s1 := kq now c [] n) (may_fine rfl (by show ¬ (now < t ∨ _); omega)) rfl (Nat.zero_le _) rfl (by rw [ha]; rfl) (Nat.zero_le _)]
  rfl
theorem kx8_eq (p q : Nat) : (kx7 p q).advX 7 = kx8 p q := by
  have h : (kx7 p q).advX 7 = (kx7 p q).adv 7 := by kernel_rfl
  rw [h]
  exact (adv2_eval (x := kx7 p q) rfl (kq_adv 7 (by decide) 1 0 ⟨2, 0, 0⟩ (by decide) (.inl rfl)) (kq_adv 7 (by decide) 2 0 ⟨0, 0, 0⟩ (by decide) (.inr rfl)) (y1 := { kx7 p q with now := 7, P := [kq 7 ⟨2, 0, 0⟩ [] 0, kq 2 ⟨0, 0, 0⟩ [] 0] }) (by kernel_rfl) rfl (y2 := { kx7 p q with now := 7, P := [kq 7 ⟨2, 0, 0⟩ [] 0, kq 7 ⟨0, 0, 0⟩ [] 0] }) (by kernel_rfl) (D := [⟨8, kb, 50, 1, 1, 7, 0, -1, -1, q⟩]) (by kernel_rfl) (Nat.le_refl _)).trans (by kernel_rfl)
theorem kx12_q : (kq 8 ⟨2, 0, 0⟩ [⟨2, 9, 20⟩] 2).advance 20 = { kq 20 ⟨2, 0, 0⟩ [] 2 with E := [⟨4, 9, -1⟩] } := by
  rw [adv_evalP (s := kq 8 ⟨2, 0, 0⟩ [⟨2, 9, 20⟩] 2) (s1 := { kq 20 ⟨2, 0, 0⟩ [] 2 with E := [⟨4, 9, -1⟩] }) (L := [⟨2, 9, 20⟩]) (O := []) (now := 20) (by kernel_rfl) (by kernel_rfl) (Nat.le_of_ble_eq_true rfl) (by kernel_rfl) (by kernel_rfl) (Nat.le_of_ble_eq_true rfl)]
  kernel_rfl
theorem kx12_eq (q r : Nat) : (kx11 q r).advX 20 = kx12 q := by
  have h : (kx11 q r).advX 20 = (kx11 q r).adv 20 := by kernel_rfl
  rw [h]
  exact (adv2_eval (x := kx11 q r) rfl kx12_q (kq_adv 20 (by decide) 7 0 ⟨0, 0, 0⟩ (by decide) (.inr rfl)) (y1 := { kx12 q with P := [kq 20 ⟨2, 0, 0⟩ [] 2, kq 7 ⟨0, 0, 0⟩ [] 0] }) (by kernel_rfl) (by kernel_rfl) (y2 := kx12 q) (by kernel_rfl) (D := []) (by kernel_rfl) (Nat.zero_le _)).trans rfl
end Go.Proofs.YtelmlkdibcdebaaGreat
end
section
set_option linter.unusedVariables false
set_option maxRecDepth 20000
set_option maxHeartbeats 1000000
namespace Go.Proofs.YtelmlkdibcdebaaGreat
def pxK (m : XM) (x : PX) : Heap := pxH m x
theorem xm_begin {N : Nat} {m : XM} {x : PX} {w b e : Nat} (h : PXIs N m x) (o : PXO w b e x) (hN : N ≤ 8000) (hE : e ≤ 10000) (hB : b ≤ 1000000) (n : Int) (now dl : Nat) (hb : now ≤ 18446744073709551615) (key : ByteArray) :
    Spec Tryz.prog 12 [ptrP m.p, .int .i64 n, .int .u64 (now : Int), .int .u64 (dl : Int), .string key] (pxK m x) (fun r H' => ∃ m' x', r = .int .i64 (x.begE n now dl key) ∧ H' = pxK m' x' ∧ PXIs (N + 1) m' x' ∧ m'.p = m.p ∧ PXO (w + 1) (b + 1) (e + 1) x' ∧ ((x.begE n now dl key ≠ 0 ∧ x' = x) ∨ (x.begE n now dl key = 0 ∧ ∃ p, x' = x.begin n now dl key p))) := by
  unfold pxK; apply xl_begin <;> assumption
theorem xm_dialed {N : Nat} {m : XM} {x : PX} {w b e : Nat} (h : PXIs N m x) (o : PXO w b e x) (hN : N ≤ 7000) (hE : e ≤ 10000) (n : Int) (good : Bool) (now : Nat) (hb : now ≤ 18446744073709551615) :
    Spec Tryz.prog 13 [ptrP m.p, .int .i64 n, .bool good, .int .u64 (now : Int)] (pxK m x) (fun r H' => ∃ m', r = .int .i64 (x.inX n 3 now) ∧ H' = pxK m' (x.dialX n good now) ∧ PXIs (N + 21) m' (x.dialX n good now) ∧ m'.p = m.p ∧ PXO (w + 1) (b + 1) (e + 3) (x.dialX n good now)) := by
  unfold pxK; apply xl_dialed <;> assumption
theorem xm_end {N : Nat} {m : XM} {x : PX} {w b e : Nat} (h : PXIs N m x) (o : PXO w b e x) (hN : N ≤ 7000) (hE : e ≤ 10000) (n : Int) (good : Bool) (now : Nat) (hb : now ≤ 18446744073709551615) :
    Spec Tryz.prog 14 [ptrP m.p, .int .i64 n, .bool good, .int .u64 (now : Int)] (pxK m x) (fun r H' => ∃ m', r = .int .i64 (x.inX n 4 now) ∧ H' = pxK m' (x.endX n good now) ∧ PXIs (N + 21) m' (x.endX n good now) ∧ m'.p = m.p ∧ PXO (w + 1) (b + 1) (e + 3) (x.endX n good now)) := by
  unfold pxK; apply xl_end <;> assumption
theorem xm_adv {N : Nat} {m : XM} {x : PX} {w b e : Nat} (h : PXIs N m x) (o : PXO w b e x) (hN : N ≤ 7000) (hw : w ≤ 57) (hE : e ≤ 10000) (hB : b ≤ 1000000) (hP : x.P.length ≤ 100) (now : Nat) (hb : now ≤ 18446744073709551615) :
    Spec Tryz.prog 15 [ptrP m.p, .int .u64 (now : Int)] (pxK m x) (fun r H' => ∃ m', r = .int .i64 (x.may true now) ∧ H' = pxK m' (x.advX now) ∧ PXIs (N + w + 101) m' (x.advX now) ∧ m'.p = m.p ∧ PXO w (b + 102) (e + w + 101) (x.advX now)) := by
  unfold pxK; apply xl_adv <;> assumption
theorem xm_next {N : Nat} {m : XM} {x : PX} (h : PXIs N m x) : Spec Tryz.prog 20 [ptrP m.p] (pxK m x) (fun r H' => ∃ m', r = .tuple #[xvV (hdX x.E), .bool (!x.E.isEmpty)] ∧ H' = pxK m' x.nx ∧ PXIs N m' x.nx ∧ m'.p = m.p) := by
  unfold pxK; apply xl_next <;> assumption
theorem mis_ok {N : Nat} {m : XM} {x : PX} (h : PXIs N m x) (n st be cn : Int) : Spec Tryz.prog 21 [ptrP m.p, .int .i64 n, .int .i64 st, .int .i64 be, .int .i64 cn] (pxK m x) (fun r H' => r = .bool (decide (x.stX n = (st, be, cn))) ∧ H' = pxK m x) := by
  unfold pxK; apply lis_ok <;> assumption
theorem mtells_ok {N : Nat} {m : XM} {x : PX} (h : PXIs N m x) {k s b c e : Int} {r : List Xv} (hE : x.E = ⟨k, s, b, c, e⟩ :: r) : Spec Tryz.prog 25 [ptrP m.p, .int .i64 k, .int .i64 s, .int .i64 b, .int .i64 c, .int .i64 e] (pxK m x) (fun r H' => ∃ m', r = .bool true ∧ H' = pxK m' x.nx ∧ PXIs N m' x.nx ∧ m'.p = m.p) := by
  unfold pxK; apply ltells_ok <;> assumption
theorem xm_due {N : Nat} {m : XM} {x : PX} (h : PXIs N m x) (hn : (x.S.map (·.num)).Nodup) : Spec Tryz.prog 22 [ptrP m.p] (pxK m x) (fun r H' => r = .int .u64 (dueV x.S : Int) ∧ H' = pxK m x) := by
  unfold pxK; apply xdue_all <;> assumption
theorem xm_new (k : Nat) (W : List Int) (oa : Option Addr) (c : Nat) (ent : Ent) (ha : Rd oa ent W) (limit : Int) (brk : Nat) (op idle : Int) (keep : Nat) (p : Plan) (h : VOkB (k : Int) W limit brk) (hp : OkP p) (hq : POk op idle keep) (hsd : p.seed < 4294967296) (hkp : keep ≤ 18446744073709551615) : Spec Tryz.prog 9 [.agg (xsetL (k : Int) oa W.length c limit brk op idle keep p).toArray] [ent]
    (fun r H' => ∃ m, r = .tuple #[ptrP m.p, .int .i64 0] ∧ H' = ent :: pxK m (px0 k W limit brk op idle keep p) ∧ PXIs 0 m (px0 k W limit brk op idle keep p)) := by
  unfold pxK; apply xnew_ok <;> assumption
end Go.Proofs.YtelmlkdibcdebaaGreat
end
section
set_option linter.unusedVariables false
set_option maxRecDepth 20000
set_option maxHeartbeats 4000000
namespace Go.Proofs.YtelmlkdibcdebaaGreat
theorem known_ok : Spec Tryz.prog 8 [] [] (fun r H' => r = .bool true ∧ H' = []) := by
  refine Spec.of (E := []) Tryz.func8 rfl (by kernel_rfl) Tryz.ntmps8 rfl rfl (fun w => ?_)
  refine WC_seq ?_
  refine WC_region ?_
  refine WL_val rfl rfl rfl (R_assign rfl rfl) ?_
  refine WL_nil ?_
  refine WQ_code ?_
  refine WC_seq ?_
  refine WC_region ?_
  refine WL_do rfl rfl rfl (D_call (lsett_ok) rfl rfl rfl rfl (pqD)) ?_
  rintro _ _ ⟨_, ⟨ws, rfl, rfl⟩, rfl⟩
  refine WL_do rfl rfl rfl (D_call (xm_new 1 [1, 1] _ _ _ (Rd.own (e := 3) (own_lit _ [1, 1] (Nat.le_of_ble_eq_true rfl))) 1 100 1 1 18446744073709551615 ⟨5, 5, 1, 1, 2, 0, 0⟩ (by decide) (by decide) (by decide) (by decide) (Nat.le_refl _)) rfl rfl rfl rfl (pqD)) ?_
  rintro _ _ ⟨_, ⟨m0, rfl, rfl, g0⟩, rfl⟩
  rw [kx0_eq] at g0 ⊢
  have o0 : PXO 0 0 0 kx0 := kx0_eq ▸ PXO.new (by decide) (by decide)
  refine WL_val rfl rfl rfl (R_move rfl rfl) ?_
  refine WL_val rfl rfl rfl (R_extract rfl rfl rfl) ?_
  refine WL_val rfl rfl rfl (R_extract rfl rfl rfl) ?_
  refine WL_val rfl rfl rfl (R_assign rfl rfl) ?_
  refine WL_val rfl rfl rfl (R_assign rfl rfl) ?_
  refine WL_nil ?_
  refine WQ_code ?_
  refine WC_seq ?_
  refine WC_seq ?_
  refine WC_region ?_
  refine WL_val rfl rfl rfl (R_move rfl rfl) ?_
  refine WL_val rfl rfl rfl (R_ptrEqNil rfl Tryz.underlying33 rfl) ?_
  refine WL_set (s := 11) (v := .bool false) rfl (by rfl) ?_
  refine WL_val rfl rfl rfl (R_move rfl rfl) ?_
  refine WL_val rfl rfl rfl (R_move rfl rfl) ?_
  refine WL_val rfl rfl rfl (R_neq rfl rfl rfl) ?_
  refine WL_val rfl rfl rfl (R_pickF rfl rfl rfl) ?_
  refine WL_val rfl rfl rfl (R_move rfl rfl) ?_
  refine WL_set (s := 16) (v := .bool false) rfl (by simp) ?_
  refine WL_val rfl rfl rfl (R_move rfl rfl) ?_
  refine WL_do rfl rfl rfl (D_call (xm_begin g0 o0 (by omega) (by omega) (by omega) 7 0 50 (by omega) kb) rfl rfl rfl rfl (pqD)) ?_
  rintro _ _ ⟨_, ⟨m1, x1, rfl, rfl, g1, p1, o1, hx1⟩, rfl⟩
  obtain ⟨q1, rfl⟩ : ∃ p, x1 = (kx0).begin 7 0 50 kb p := by rcases hx1 with ⟨e, _⟩ | ⟨_, e⟩; exact absurd (by kernel_rfl) e; exact e
  rw [kx1_eq] at g1 o1 ⊢
  rw [← p1]
  rw [show (kx0).begE 7 0 50 kb = 0 from by kernel_rfl]
  refine WL_val rfl rfl rfl (R_neq rfl rfl rfl) ?_
  refine WL_val rfl rfl rfl (R_pickF rfl rfl rfl) ?_
  refine WL_val rfl rfl rfl (R_move rfl rfl) ?_
  refine WL_set (s := 21) (v := .bool false) rfl (by simp) ?_
  refine WL_val rfl rfl rfl (R_move rfl rfl) ?_
  refine WL_do rfl rfl rfl (D_call (mtells_ok g1 (r := []) rfl) rfl rfl rfl rfl (pqD)) ?_
  rintro _ _ ⟨_, ⟨m2, rfl, rfl, g2, p2⟩, rfl⟩
  rw [kx2_eq] at g2 ⊢
  rw [← p2]
  have o2 := o1.nx
  rw [kx2_eq] at o2
  refine WL_val rfl rfl rfl (R_not rfl rfl) ?_
  refine WL_val rfl rfl rfl (R_pickF rfl rfl rfl) ?_
  refine WL_val rfl rfl rfl (R_move rfl rfl) ?_
  refine WL_val rfl rfl rfl (R_move rfl rfl) ?_
  refine WL_do rfl rfl rfl (D_call (xm_dialed g2 o2 (by omega) (by omega) 7 true 1 (by omega)) rfl rfl rfl rfl (pqD)) ?_
  rintro _ _ ⟨_, ⟨m3, rfl, rfl, g3, p3, o3⟩, rfl⟩
  rw [kx3_eq] at g3 o3 ⊢
  rw [← p3]
  rw [show (kx2 q1).inX 7 3 1 = 0 from by kernel_rfl]
  refine WL_val rfl rfl rfl (R_neq rfl rfl rfl) ?_
  refine WL_val rfl rfl rfl (R_pickF rfl rfl rfl) ?_
  refine WL_val rfl rfl rfl (R_move rfl rfl) ?_
  refine WL_set (s := 31) (v := .bool false) rfl (by simp) ?_
  refine WL_val rfl rfl rfl (R_move rfl rfl) ?_
  refine WL_do rfl rfl rfl (D_call (mtells_ok g3 (r := []) rfl) rfl rfl rfl rfl (pqD)) ?_
  rintro _ _ ⟨_, ⟨m4, rfl, rfl, g4, p4⟩, rfl⟩
  rw [kx4_eq] at g4 ⊢
  rw [← p4]
  have o4 := o3.nx
  rw [kx4_eq] at o4
  refine WL_val rfl rfl rfl (R_not rfl rfl) ?_
  refine WL_val rfl rfl rfl (R_pickF rfl rfl rfl) ?_
  refine WL_nil ?_
  refine WQ_code ?_
  refine WC_F rfl ?_
  refine WC_skip ?_
  refine WQ_code ?_
  refine WC_seq ?_
  refine WC_seq ?_
  refine WC_region ?_
  refine WL_val rfl rfl rfl (R_move rfl rfl) ?_
  refine WL_do rfl rfl rfl (D_call (xm_begin g4 o4 (by omega) (by omega) (by omega) 8 1 50 (by omega) kb) rfl rfl rfl rfl (pqD)) ?_
  rintro _ _ ⟨_, ⟨m5, x5, rfl, rfl, g5, p5, o5, hx5⟩, rfl⟩
  obtain ⟨q2, rfl⟩ : ∃ p, x5 = (kx4 q1).begin 8 1 50 kb p := by rcases hx5 with ⟨e, _⟩ | ⟨_, e⟩; exact absurd (by kernel_rfl) e; exact e
  rw [kx5_eq] at g5 o5 ⊢
  rw [← p5]
  rw [show (kx4 q1).begE 8 1 50 kb = 0 from by kernel_rfl]
  refine WL_val rfl rfl rfl (R_neq rfl rfl rfl) ?_
  refine WL_val rfl rfl rfl (R_move rfl rfl) ?_
  refine WL_set (s := 39) (v := .bool false) rfl (by simp) ?_
  refine WL_val rfl rfl rfl (R_move rfl rfl) ?_
  refine WL_do rfl rfl rfl (D_call (mtells_ok g5 (r := []) rfl) rfl rfl rfl rfl (pqD)) ?_
  rintro _ _ ⟨_, ⟨m6, rfl, rfl, g6, p6⟩, rfl⟩
  rw [kx6_eq] at g6 ⊢
  rw [← p6]
  have o6 := o5.nx
  rw [kx6_eq] at o6
  refine WL_val rfl rfl rfl (R_not rfl rfl) ?_
  refine WL_val rfl rfl rfl (R_pickF rfl rfl rfl) ?_
  refine WL_val rfl rfl rfl (R_move rfl rfl) ?_
  refine WL_val rfl rfl rfl (R_move rfl rfl) ?_
  refine WL_do rfl rfl rfl (D_call (xm_dialed g6 o6 (by omega) (by omega) 8 false 2 (by omega)) rfl rfl rfl rfl (pqD)) ?_
  rintro _ _ ⟨_, ⟨m7, rfl, rfl, g7, p7, o7⟩, rfl⟩
  rw [kx7_eq] at g7 o7 ⊢
  rw [← p7]
  rw [show (kx6 q1 q2).inX 8 3 2 = 0 from by kernel_rfl]
  refine WL_val rfl rfl rfl (R_neq rfl rfl rfl) ?_
  refine WL_val rfl rfl rfl (R_pickF rfl rfl rfl) ?_
  refine WL_val rfl rfl rfl (R_move rfl rfl) ?_
  refine WL_set (s := 49) (v := .bool false) rfl (by simp) ?_
  refine WL_val rfl rfl rfl (R_move rfl rfl) ?_
  refine WL_do rfl rfl rfl (D_call (mis_ok g7 8 1 (-1) (-1)) rfl rfl rfl rfl (pqD)) ?_
  rintro _ _ ⟨_, ⟨rfl, rfl⟩, rfl⟩
  refine WL_set (s := 51) (v := .bool true) rfl (by exact congrArg Value.bool (decide_eq_true (by kernel_rfl))) ?_
  refine WL_val rfl rfl rfl (R_not rfl rfl) ?_
  refine WL_val rfl rfl rfl (R_pickF rfl rfl rfl) ?_
  refine WL_val rfl rfl rfl (R_move rfl rfl) ?_
  refine WL_val rfl rfl rfl (R_move rfl rfl) ?_
  refine WL_do rfl rfl rfl (D_call (xm_due g7 o7.g.nd) rfl rfl rfl rfl (pqD)) ?_
  rintro _ _ ⟨_, ⟨rfl, rfl⟩, rfl⟩
  rw [show dueV (kx7 q1 q2).S = 7 from by kernel_rfl]
  refine WL_val rfl rfl rfl (R_neq rfl rfl rfl) ?_
  refine WL_val rfl rfl rfl (R_pickF rfl rfl rfl) ?_
  refine WL_nil ?_
  refine WQ_code ?_
  refine WC_dF rfl (by simp) ?_
  refine WC_skip ?_
  refine WQ_code ?_
  refine WC_seq ?_
  refine WC_seq ?_
  refine WC_region ?_
  refine WL_val rfl rfl rfl (R_move rfl rfl) ?_
  refine WL_do rfl rfl rfl (D_call (xm_next g7) rfl rfl rfl rfl (pqD)) ?_
  rintro _ _ ⟨_, ⟨m8, rfl, rfl, g8, p8⟩, rfl⟩
  rw [kx7_nx] at g8 ⊢
  rw [← p8]
  refine WL_val rfl rfl rfl (R_move rfl rfl) ?_
  refine WL_val rfl rfl rfl (R_extract rfl rfl rfl) ?_
  refine WL_val rfl rfl rfl (R_extract rfl rfl rfl) ?_
  refine WL_do rfl rfl rfl (D_alloc rfl zv63) ?_
  rintro _ _ ⟨b1, rfl, rfl⟩
  refine WL_do0 rfl rfl (D_store (vs := [_, _, _, _, _]) rfl Tryz.sizeOf63 rfl rfl rfl rfl rfl (plD) (by exact Nat.le_of_ble_eq_true rfl)) ?_
  rintro _ _ rfl
  refine WL_val rfl rfl rfl (R_assign rfl rfl) ?_
  refine WL_set (s := 4) (v := .bool false) rfl (by rfl) ?_
  refine WL_nil ?_
  refine WQ_code ?_
  refine WC_seq ?_
  refine WC_region ?_
  refine WL_val rfl rfl rfl (R_move rfl rfl) ?_
  refine WL_val rfl rfl rfl (R_move rfl rfl) ?_
  refine WL_val rfl rfl rfl (R_move rfl rfl) ?_
  refine WL_do rfl rfl rfl (D_call (xm_adv g8 o7 (by omega) (by omega) (by omega) (by omega) (Nat.le_of_ble_eq_true rfl) 7 (by omega)) rfl rfl rfl rfl (pqD)) ?_
  rintro _ _ ⟨_, ⟨m9, rfl, rfl, g9, p9, o9⟩, rfl⟩
  rw [kx8_eq] at g9 o9 ⊢
  rw [← p9]
  rw [show (kx7 q1 q2).may true 7 = 0 from by kernel_rfl]
  refine WL_val rfl rfl rfl (R_neq rfl rfl rfl) ?_
  refine WL_val rfl rfl rfl (R_pickF rfl rfl rfl) ?_
  refine WL_val rfl rfl rfl (R_move rfl rfl) ?_
  refine WL_set (s := 70) (v := .bool false) rfl (by simp) ?_
  refine WL_val rfl rfl rfl (R_move rfl rfl) ?_
  refine WL_do rfl rfl rfl (D_call (mis_ok g9 8 2 0 (-1)) rfl rfl rfl rfl (pqD)) ?_
  rintro _ _ ⟨_, ⟨rfl, rfl⟩, rfl⟩
  refine WL_set (s := 72) (v := .bool true) rfl (by exact congrArg Value.bool (decide_eq_true (by kernel_rfl))) ?_
  refine WL_val rfl rfl rfl (R_not rfl rfl) ?_
  refine WL_val rfl rfl rfl (R_pickF rfl rfl rfl) ?_
  refine WL_val rfl rfl rfl (R_move rfl rfl) ?_
  refine WL_val rfl rfl rfl (R_move rfl rfl) ?_
  refine WL_do rfl rfl rfl (D_call (xm_end g9 o9 (by omega) (by omega) 7 true 8 (by omega)) rfl rfl rfl rfl (pqD)) ?_
  rintro _ _ ⟨_, ⟨m10, rfl, rfl, g10, p10, o10⟩, rfl⟩
  rw [kx9_eq] at g10 o10 ⊢
  rw [← p10]
  rw [show (kx8 q1 q2).inX 7 4 8 = 0 from by kernel_rfl]
  refine WL_val rfl rfl rfl (R_neq rfl rfl rfl) ?_
  refine WL_val rfl rfl rfl (R_pickF rfl rfl rfl) ?_
  refine WL_val rfl rfl rfl (R_move rfl rfl) ?_
  refine WL_set (s := 80) (v := .bool false) rfl (by simp) ?_
  refine WL_val rfl rfl rfl (R_move rfl rfl) ?_
  refine WL_do rfl rfl rfl (D_call (mtells_ok g10 (r := []) rfl) rfl rfl rfl rfl (pqD)) ?_
  rintro _ _ ⟨_, ⟨m11, rfl, rfl, g11, p11⟩, rfl⟩
  rw [kx10_eq] at g11 ⊢
  rw [← p11]
  have o11 := o10.nx
  rw [kx10_eq] at o11
  refine WL_val rfl rfl rfl (R_not rfl rfl) ?_
  refine WL_val rfl rfl rfl (R_pickF rfl rfl rfl) ?_
  refine WL_nil ?_
  refine WQ_code ?_
  refine WC_F rfl ?_
  refine WC_skip ?_
  refine WQ_code ?_
  refine WC_seq ?_
  refine WC_region ?_
  refine WL_val rfl rfl rfl (R_move rfl rfl) ?_
  refine WL_do rfl rfl rfl (D_call (xm_begin g11 o11 (by omega) (by omega) (by omega) 9 8 20 (by omega) kb) rfl rfl rfl rfl (pqD)) ?_
  rintro _ _ ⟨_, ⟨m12, x12, rfl, rfl, g12, p12, o12, hx12⟩, rfl⟩
  obtain ⟨q3, rfl⟩ : ∃ p, x12 = (kx10 q2).begin 9 8 20 kb p := by rcases hx12 with ⟨e, _⟩ | ⟨_, e⟩; exact absurd (by kernel_rfl) e; exact e
  rw [kx11_eq] at g12 o12 ⊢
  rw [← p12]
  rw [show (kx10 q2).begE 9 8 20 kb = 0 from by kernel_rfl]
  refine WL_val rfl rfl rfl (R_eql rfl rfl rfl) ?_
  refine WL_val rfl rfl rfl (R_move rfl rfl) ?_
  refine WL_set (s := 88) (v := .bool true) rfl (by simp) ?_
  refine WL_val rfl rfl rfl (R_move rfl rfl) ?_
  refine WL_do rfl rfl rfl (D_call (xm_adv g12 o12 (by omega) (by omega) (by omega) (by omega) (Nat.le_of_ble_eq_true rfl) 20 (by omega)) rfl rfl rfl rfl (pqD)) ?_
  rintro _ _ ⟨_, ⟨m13, rfl, rfl, g13, p13, o13⟩, rfl⟩
  rw [kx12_eq] at g13 o13 ⊢
  rw [← p13]
  rw [show (kx11 q2 q3).may true 20 = 0 from by kernel_rfl]
  refine WL_val rfl rfl rfl (R_eql rfl rfl rfl) ?_
  refine WL_val rfl rfl rfl (R_pickT rfl rfl rfl) ?_
  refine WL_val rfl rfl rfl (R_move rfl rfl) ?_
  refine WL_set (s := 93) (v := .bool true) rfl (by simp) ?_
  refine WL_val rfl rfl rfl (R_move rfl rfl) ?_
  refine WL_do rfl rfl rfl (D_call (mtells_ok g13 (r := []) rfl) rfl rfl rfl rfl (pqD)) ?_
  rintro _ _ ⟨_, ⟨m14, rfl, rfl, g14, p14⟩, rfl⟩
  refine WL_val rfl rfl rfl (R_pickT rfl rfl rfl) ?_
  refine WL_val rfl rfl rfl (R_assign rfl rfl) ?_
  refine WL_nil ?_
  refine WQ_code ?_
  refine WC_ret ?_
  refine WQ_ret rfl rfl (.cons (.tmp rfl) .nil) rfl (by
      exact ⟨rfl, rfl⟩) (pqD)
end Go.Proofs.YtelmlkdibcdebaaGreat
end
section
set_option linter.unusedVariables false
set_option maxRecDepth 20000
set_option maxHeartbeats 2000000
namespace Go.Proofs.YtelmlkdibcdebaaGreat
theorem xmay_nil (right : Bool) (now : Nat) : Spec Tryz.prog 30 [.pointer none, .bool right, .int .u64 (now : Int)] [] (fun r H' => r = .int .i64 1 ∧ H' = []) := by
  refine Spec.of (E := [(0, .pointer none), (1, .bool right), (2, .int .u64 (now : Int))]) Tryz.func30 rfl (by kernel_rfl) Tryz.ntmps30 rfl rfl (fun w => ?_)
  refine WC_seq ?_
  refine WC_region ?_
  refine WL_val rfl rfl rfl (R_assign rfl rfl) ?_
  refine WL_nil ?_
  refine WQ_code ?_
  refine WC_seq ?_
  refine WC_block ?_
  refine WC_seq ?_
  refine WC_region ?_
  refine WL_val rfl rfl rfl (R_move rfl rfl) ?_
  refine WL_val rfl rfl rfl (R_ptrEqNil rfl Tryz.underlying33 rfl) ?_
  refine WL_val rfl rfl rfl (R_move rfl rfl) ?_
  refine WL_skip rfl rfl rfl ?_
  refine WL_skip rfl rfl rfl ?_
  refine WL_skip rfl rfl rfl ?_
  refine WL_skip rfl rfl rfl ?_
  refine WL_skip rfl rfl rfl ?_
  refine WL_val rfl rfl rfl (R_pickT rfl rfl rfl) ?_
  refine WL_val rfl rfl rfl (R_assign rfl rfl) ?_
  refine WL_nil ?_
  refine WQ_code ?_
  refine WC_T rfl ?_
  refine WC_seq ?_
  refine WC_region ?_
  refine WL_val rfl rfl rfl (R_assign rfl rfl) ?_
  refine WL_nil ?_
  refine WQ_code ?_
  refine WC_ret ?_
  refine WQ_ret rfl rfl (.cons (.tmp rfl) .nil) rfl (by
      exact ⟨rfl, rfl⟩) (pqZ)
theorem xmay_zero (p : Nat) (right : Bool) (now : Nat) : Spec Tryz.prog 30 [ptrP p, .bool right, .int .u64 (now : Int)] [⟨some p, cl [.pointer none, .slice none 0 0, .int .u64 0, .int .u64 0, .int .i64 0, .int .i64 0, .int .i64 0, .int .i64 0, .int .u32 0, .int .u64 0, .map none, .slice none 0 0] 68⟩] (fun r H' => r = .int .i64 1 ∧ H' = [⟨some p, cl [.pointer none, .slice none 0 0, .int .u64 0, .int .u64 0, .int .i64 0, .int .i64 0, .int .i64 0, .int .i64 0, .int .u32 0, .int .u64 0, .map none, .slice none 0 0] 68⟩]) := by
  refine Spec.of (E := [(0, ptrP p), (1, .bool right), (2, .int .u64 (now : Int))]) Tryz.func30 rfl (by kernel_rfl) Tryz.ntmps30 rfl rfl (fun w => ?_)
  refine WC_seq ?_
  refine WC_region ?_
  refine WL_val rfl rfl rfl (R_assign rfl rfl) ?_
  refine WL_nil ?_
  refine WQ_code ?_
  refine WC_seq ?_
  refine WC_block ?_
  refine WC_seq ?_
  refine WC_region ?_
  refine WL_val rfl rfl rfl (R_move rfl rfl) ?_
  refine WL_val rfl rfl rfl (R_ptrEqNil rfl Tryz.underlying33 rfl) ?_
  refine WL_val rfl rfl rfl (R_move rfl rfl) ?_
  refine WL_val rfl rfl rfl (R_move rfl rfl) ?_
  refine WL_val rfl rfl rfl (R_nilCheck rfl rfl) ?_
  refine WL_val rfl rfl rfl (R_fieldAddr rfl fa68_4 rfl) ?_
  refine WL_val rfl rfl rfl (R_load rfl sc66 rfl (mmZ) rfl) ?_
  refine WL_val rfl rfl rfl (R_mapEqNil rfl Tryz.underlying66 rfl) ?_
  refine WL_val rfl rfl rfl (R_pickF rfl rfl rfl) ?_
  refine WL_val rfl rfl rfl (R_assign rfl rfl) ?_
  refine WL_nil ?_
  refine WQ_code ?_
  refine WC_T rfl ?_
  refine WC_seq ?_
  refine WC_region ?_
  refine WL_val rfl rfl rfl (R_assign rfl rfl) ?_
  refine WL_nil ?_
  refine WQ_code ?_
  refine WC_ret ?_
  refine WQ_ret rfl rfl (.cons (.tmp rfl) .nil) rfl (by
      exact ⟨rfl, rfl⟩) (pqZ)
theorem xin_nil (n st : Int) (now : Nat) : Spec Tryz.prog 34 [.pointer none, .int .i64 n, .int .i64 st, .int .u64 (now : Int)] [] (fun r H' => r = .tuple #[.pointer none, .int .i64 1] ∧ H' = []) := by
  refine Spec.of (E := [(0, .pointer none), (1, .int .i64 n), (2, .int .i64 st), (3, .int .u64 (now : Int))]) Tryz.func34 rfl (by kernel_rfl) Tryz.ntmps34 rfl rfl (fun w => ?_)
  refine WC_seq ?_
  refine WC_region ?_
  refine WL_val rfl rfl rfl (R_assign rfl rfl) ?_
  refine WL_val rfl rfl rfl (R_assign rfl rfl) ?_
  refine WL_nil ?_
  refine WQ_code ?_
  refine WC_seq ?_
  refine WC_seq ?_
  refine WC_region ?_
  refine WL_val rfl rfl rfl (R_move rfl rfl) ?_
  refine WL_val rfl rfl rfl (R_move rfl rfl) ?_
  refine WL_do rfl rfl rfl (D_call (xright_ok n) rfl rfl rfl rfl (pqZ)) ?_
  rintro _ _ ⟨_, ⟨rfl, rfl⟩, rfl⟩
  refine WL_val rfl rfl rfl (R_move rfl rfl) ?_
  refine WL_do rfl rfl rfl (D_call (xmay_nil _ now) rfl rfl rfl rfl (pqZ)) ?_
  rintro _ _ ⟨_, ⟨rfl, rfl⟩, rfl⟩
  refine WL_val rfl rfl rfl (R_assign rfl rfl) ?_
  refine WL_nil ?_
  refine WQ_code ?_
  refine WC_seq ?_
  refine WC_region ?_
  refine WL_val rfl rfl rfl (R_move rfl rfl) ?_
  refine WL_val rfl rfl rfl (R_neq rfl rfl rfl) ?_
  refine WL_nil ?_
  refine WQ_code ?_
  refine WC_dT rfl (by decide) ?_
  refine WC_seq ?_
  refine WC_region ?_
  refine WL_val rfl rfl rfl (R_move rfl rfl) ?_
  refine WL_val rfl rfl rfl (R_assign rfl rfl) ?_
  refine WL_val rfl rfl rfl (R_assign rfl rfl) ?_
  refine WL_nil ?_
  refine WQ_code ?_
  refine WC_ret ?_
  refine WQ_ret rfl rfl (.cons (.tmp rfl) (.cons (.tmp rfl) .nil)) rfl (by
      exact ⟨rfl, rfl⟩) (pqZ)
theorem xin_zero (p : Nat) (n st : Int) (now : Nat) : Spec Tryz.prog 34 [ptrP p, .int .i64 n, .int .i64 st, .int .u64 (now : Int)] [⟨some p, cl [.pointer none, .slice none 0 0, .int .u64 0, .int .u64 0, .int .i64 0, .int .i64 0, .int .i64 0, .int .i64 0, .int .u32 0, .int .u64 0, .map none, .slice none 0 0] 68⟩] (fun r H' => r = .tuple #[.pointer none, .int .i64 1] ∧ H' = [⟨some p, cl [.pointer none, .slice none 0 0, .int .u64 0, .int .u64 0, .int .i64 0, .int .i64 0, .int .i64 0, .int .i64 0, .int .u32 0, .int .u64 0, .map none, .slice none 0 0] 68⟩]) := by
  refine Spec.of (E := [(0, ptrP p), (1, .int .i64 n), (2, .int .i64 st), (3, .int .u64 (now : Int))]) Tryz.func34 rfl (by kernel_rfl) Tryz.ntmps34 rfl rfl (fun w => ?_)
  refine WC_seq ?_
  refine WC_region ?_
  refine WL_val rfl rfl rfl (R_assign rfl rfl) ?_
  refine WL_val rfl rfl rfl (R_assign rfl rfl) ?_
  refine WL_nil ?_
  refine WQ_code ?_
  refine WC_seq ?_
  refine WC_seq ?_
  refine WC_region ?_
  refine WL_val rfl rfl rfl (R_move rfl rfl) ?_
  refine WL_val rfl rfl rfl (R_move rfl rfl) ?_
  refine WL_do rfl rfl rfl (D_call (xright_ok n) rfl rfl rfl rfl (pqZ)) ?_
  rintro _ _ ⟨_, ⟨rfl, rfl⟩, rfl⟩
  refine WL_val rfl rfl rfl (R_move rfl rfl) ?_
  refine WL_do rfl rfl rfl (D_call (xmay_zero p _ now) rfl rfl rfl rfl (pqZ)) ?_
  rintro _ _ ⟨_, ⟨rfl, rfl⟩, rfl⟩
  refine WL_val rfl rfl rfl (R_assign rfl rfl) ?_
  refine WL_nil ?_
  refine WQ_code ?_
  refine WC_seq ?_
  refine WC_region ?_
  refine WL_val rfl rfl rfl (R_move rfl rfl) ?_
  refine WL_val rfl rfl rfl (R_neq rfl rfl rfl) ?_
  refine WL_nil ?_
  refine WQ_code ?_
  refine WC_dT rfl (by decide) ?_
  refine WC_seq ?_
  refine WC_region ?_
  refine WL_val rfl rfl rfl (R_move rfl rfl) ?_
  refine WL_val rfl rfl rfl (R_assign rfl rfl) ?_
  refine WL_val rfl rfl rfl (R_assign rfl rfl) ?_
  refine WL_nil ?_
  refine WQ_code ?_
  refine WC_ret ?_
  refine WQ_ret rfl rfl (.cons (.tmp rfl) (.cons (.tmp rfl) .nil)) rfl (by
      exact ⟨rfl, rfl⟩) (pqZ)
theorem xdialed_nil (n : Int) (good : Bool) (now : Nat) : Spec Tryz.prog 13 [.pointer none, .int .i64 n, .bool good, .int .u64 (now : Int)] [] (fun r H' => r = .int .i64 1 ∧ H' = []) := by
  refine Spec.of (E := [(0, .pointer none), (1, .int .i64 n), (2, .bool good), (3, .int .u64 (now : Int))]) Tryz.func13 rfl (by kernel_rfl) Tryz.ntmps13 rfl rfl (fun w => ?_)
  refine WC_seq ?_
  refine WC_region ?_
  refine WL_val rfl rfl rfl (R_assign rfl rfl) ?_
  refine WL_nil ?_
  refine WQ_code ?_
  refine WC_seq ?_
  refine WC_region ?_
  refine WL_val rfl rfl rfl (R_move rfl rfl) ?_
  refine WL_val rfl rfl rfl (R_move rfl rfl) ?_
  refine WL_val rfl rfl rfl (R_move rfl rfl) ?_
  refine WL_do rfl rfl rfl (D_call (xin_nil n _ now) rfl rfl rfl rfl (pqZ)) ?_
  rintro _ _ ⟨_, ⟨rfl, rfl⟩, rfl⟩
  refine WL_val rfl rfl rfl (R_move rfl rfl) ?_
  refine WL_val rfl rfl rfl (R_extract rfl rfl rfl) ?_
  refine WL_val rfl rfl rfl (R_extract rfl rfl rfl) ?_
  refine WL_val rfl rfl rfl (R_assign rfl rfl) ?_
  refine WL_val rfl rfl rfl (R_assign rfl rfl) ?_
  refine WL_nil ?_
  refine WQ_code ?_
  refine WC_seq ?_
  refine WC_seq ?_
  refine WC_region ?_
  refine WL_val rfl rfl rfl (R_move rfl rfl) ?_
  refine WL_val rfl rfl rfl (R_neq rfl rfl rfl) ?_
  refine WL_nil ?_
  refine WQ_code ?_
  refine WC_dT rfl (by decide) ?_
  refine WC_seq ?_
  refine WC_region ?_
  refine WL_val rfl rfl rfl (R_move rfl rfl) ?_
  refine WL_val rfl rfl rfl (R_assign rfl rfl) ?_
  refine WL_nil ?_
  refine WQ_code ?_
  refine WC_ret ?_
  refine WQ_ret rfl rfl (.cons (.tmp rfl) .nil) rfl (by
      exact ⟨rfl, rfl⟩) (pqZ)
theorem xdialed_zero (p : Nat) (n : Int) (good : Bool) (now : Nat) : Spec Tryz.prog 13 [ptrP p, .int .i64 n, .bool good, .int .u64 (now : Int)] [⟨some p, cl [.pointer none, .slice none 0 0, .int .u64 0, .int .u64 0, .int .i64 0, .int .i64 0, .int .i64 0, .int .i64 0, .int .u32 0, .int .u64 0, .map none, .slice none 0 0] 68⟩] (fun r H' => r = .int .i64 1 ∧ H' = [⟨some p, cl [.pointer none, .slice none 0 0, .int .u64 0, .int .u64 0, .int .i64 0, .int .i64 0, .int .i64 0, .int .i64 0, .int .u32 0, .int .u64 0, .map none, .slice none 0 0] 68⟩]) := by
  refine Spec.of (E := [(0, ptrP p), (1, .int .i64 n), (2, .bool good), (3, .int .u64 (now : Int))]) Tryz.func13 rfl (by kernel_rfl) Tryz.ntmps13 rfl rfl (fun w => ?_)
  refine WC_seq ?_
  refine WC_region ?_
  refine WL_val rfl rfl rfl (R_assign rfl rfl) ?_
  refine WL_nil ?_
  refine WQ_code ?_
  refine WC_seq ?_
  refine WC_region ?_
  refine WL_val rfl rfl rfl (R_move rfl rfl) ?_
  refine WL_val rfl rfl rfl (R_move rfl rfl) ?_
  refine WL_val rfl rfl rfl (R_move rfl rfl) ?_
  refine WL_do rfl rfl rfl (D_call (xin_zero p n _ now) rfl rfl rfl rfl (pqZ)) ?_
  rintro _ _ ⟨_, ⟨rfl, rfl⟩, rfl⟩
  refine WL_val rfl rfl rfl (R_move rfl rfl) ?_
  refine WL_val rfl rfl rfl (R_extract rfl rfl rfl) ?_
  refine WL_val rfl rfl rfl (R_extract rfl rfl rfl) ?_
  refine WL_val rfl rfl rfl (R_assign rfl rfl) ?_
  refine WL_val rfl rfl rfl (R_assign rfl rfl) ?_
  refine WL_nil ?_
  refine WQ_code ?_
  refine WC_seq ?_
  refine WC_seq ?_
  refine WC_region ?_
  refine WL_val rfl rfl rfl (R_move rfl rfl) ?_
  refine WL_val rfl rfl rfl (R_neq rfl rfl rfl) ?_
  refine WL_nil ?_
  refine WQ_code ?_
  refine WC_dT rfl (by decide) ?_
  refine WC_seq ?_
  refine WC_region ?_
  refine WL_val rfl rfl rfl (R_move rfl rfl) ?_
  refine WL_val rfl rfl rfl (R_assign rfl rfl) ?_
  refine WL_nil ?_
  refine WQ_code ?_
  refine WC_ret ?_
  refine WQ_ret rfl rfl (.cons (.tmp rfl) .nil) rfl (by
      exact ⟨rfl, rfl⟩) (pqZ)
theorem xend_nil (n : Int) (good : Bool) (now : Nat) : Spec Tryz.prog 14 [.pointer none, .int .i64 n, .bool good, .int .u64 (now : Int)] [] (fun r H' => r = .int .i64 1 ∧ H' = []) := by
  refine Spec.of (E := [(0, .pointer none), (1, .int .i64 n), (2, .bool good), (3, .int .u64 (now : Int))]) Tryz.func14 rfl (by kernel_rfl) Tryz.ntmps14 rfl rfl (fun w => ?_)
  refine WC_seq ?_
  refine WC_region ?_
  refine WL_val rfl rfl rfl (R_assign rfl rfl) ?_
  refine WL_nil ?_
  refine WQ_code ?_
  refine WC_seq ?_
  refine WC_region ?_
  refine WL_val rfl rfl rfl (R_move rfl rfl) ?_
  refine WL_val rfl rfl rfl (R_move rfl rfl) ?_
  refine WL_val rfl rfl rfl (R_move rfl rfl) ?_
  refine WL_do rfl rfl rfl (D_call (xin_nil n _ now) rfl rfl rfl rfl (pqZ)) ?_
  rintro _ _ ⟨_, ⟨rfl, rfl⟩, rfl⟩
  refine WL_val rfl rfl rfl (R_move rfl rfl) ?_
  refine WL_val rfl rfl rfl (R_extract rfl rfl rfl) ?_
  refine WL_val rfl rfl rfl (R_extract rfl rfl rfl) ?_
  refine WL_val rfl rfl rfl (R_assign rfl rfl) ?_
  refine WL_val rfl rfl rfl (R_assign rfl rfl) ?_
  refine WL_nil ?_
  refine WQ_code ?_
  refine WC_seq ?_
  refine WC_seq ?_
  refine WC_region ?_
  refine WL_val rfl rfl rfl (R_move rfl rfl) ?_
  refine WL_val rfl rfl rfl (R_neq rfl rfl rfl) ?_
  refine WL_nil ?_
  refine WQ_code ?_
  refine WC_dT rfl (by decide) ?_
  refine WC_seq ?_
  refine WC_region ?_
  refine WL_val rfl rfl rfl (R_move rfl rfl) ?_
  refine WL_val rfl rfl rfl (R_assign rfl rfl) ?_
  refine WL_nil ?_
  refine WQ_code ?_
  refine WC_ret ?_
  refine WQ_ret rfl rfl (.cons (.tmp rfl) .nil) rfl (by
      exact ⟨rfl, rfl⟩) (pqZ)
theorem xend_zero (p : Nat) (n : Int) (good : Bool) (now : Nat) : Spec Tryz.prog 14 [ptrP p, .int .i64 n, .bool good, .int .u64 (now : Int)] [⟨some p, cl [.pointer none, .slice none 0 0, .int .u64 0, .int .u64 0, .int .i64 0, .int .i64 0, .int .i64 0, .int .i64 0, .int .u32 0, .int .u64 0, .map none, .slice none 0 0] 68⟩] (fun r H' => r = .int .i64 1 ∧ H' = [⟨some p, cl [.pointer none, .slice none 0 0, .int .u64 0, .int .u64 0, .int .i64 0, .int .i64 0, .int .i64 0, .int .i64 0, .int .u32 0, .int .u64 0, .map none, .slice none 0 0] 68⟩]) := by
  refine Spec.of (E := [(0, ptrP p), (1, .int .i64 n), (2, .bool good), (3, .int .u64 (now : Int))]) Tryz.func14 rfl (by kernel_rfl) Tryz.ntmps14 rfl rfl (fun w => ?_)
  refine WC_seq ?_
  refine WC_region ?_
  refine WL_val rfl rfl rfl (R_assign rfl rfl) ?_
  refine WL_nil ?_
  refine WQ_code ?_
  refine WC_seq ?_
  refine WC_region ?_
  refine WL_val rfl rfl rfl (R_move rfl rfl) ?_
  refine WL_val rfl rfl rfl (R_move rfl rfl) ?_
  refine WL_val rfl rfl rfl (R_move rfl rfl) ?_
  refine WL_do rfl rfl rfl (D_call (xin_zero p n _ now) rfl rfl rfl rfl (pqZ)) ?_
  rintro _ _ ⟨_, ⟨rfl, rfl⟩, rfl⟩
  refine WL_val rfl rfl rfl (R_move rfl rfl) ?_
  refine WL_val rfl rfl rfl (R_extract rfl rfl rfl) ?_
  refine WL_val rfl rfl rfl (R_extract rfl rfl rfl) ?_
  refine WL_val rfl rfl rfl (R_assign rfl rfl) ?_
  refine WL_val rfl rfl rfl (R_assign rfl rfl) ?_
  refine WL_nil ?_
  refine WQ_code ?_
  refine WC_seq ?_
  refine WC_seq ?_
  refine WC_region ?_
  refine WL_val rfl rfl rfl (R_move rfl rfl) ?_
  refine WL_val rfl rfl rfl (R_neq rfl rfl rfl) ?_
  refine WL_nil ?_
  refine WQ_code ?_
  refine WC_dT rfl (by decide) ?_
  refine WC_seq ?_
  refine WC_region ?_
  refine WL_val rfl rfl rfl (R_move rfl rfl) ?_
  refine WL_val rfl rfl rfl (R_assign rfl rfl) ?_
  refine WL_nil ?_
  refine WQ_code ?_
  refine WC_ret ?_
  refine WQ_ret rfl rfl (.cons (.tmp rfl) .nil) rfl (by
      exact ⟨rfl, rfl⟩) (pqZ)
theorem xadv_nil (now : Nat) : Spec Tryz.prog 15 [.pointer none, .int .u64 (now : Int)] [] (fun r H' => r = .int .i64 1 ∧ H' = []) := by
  refine Spec.of (E := [(0, .pointer none), (1, .int .u64 (now : Int))]) Tryz.func15 rfl (by kernel_rfl) Tryz.ntmps15 rfl rfl (fun w => ?_)
  refine WC_seq ?_
  refine WC_region ?_
  refine WL_do rfl rfl rfl (D_box (cs := [_]) rfl rfl rfl) ?_
  rintro _ _ ⟨b1, rfl, rfl⟩
  refine WL_val rfl rfl rfl (R_assign rfl rfl) ?_
  refine WL_nil ?_
  refine WQ_code ?_
  refine WC_seq ?_
  refine WC_seq ?_
  refine WC_region ?_
  refine WL_val rfl rfl rfl (R_move rfl rfl) ?_
  refine WL_val rfl rfl rfl (R_load rfl sc25 rfl (mmZ) rfl) ?_
  refine WL_do rfl rfl rfl (D_call (xmay_nil true now) rfl rfl rfl rfl (pqZ)) ?_
  rintro _ _ ⟨_, ⟨rfl, rfl⟩, rfl⟩
  refine WL_val rfl rfl rfl (R_assign rfl rfl) ?_
  refine WL_nil ?_
  refine WQ_code ?_
  refine WC_seq ?_
  refine WC_region ?_
  refine WL_val rfl rfl rfl (R_move rfl rfl) ?_
  refine WL_val rfl rfl rfl (R_neq rfl rfl rfl) ?_
  refine WL_nil ?_
  refine WQ_code ?_
  refine WC_dT rfl (by decide) ?_
  refine WC_seq ?_
  refine WC_region ?_
  refine WL_val rfl rfl rfl (R_move rfl rfl) ?_
  refine WL_val rfl rfl rfl (R_assign rfl rfl) ?_
  refine WL_nil ?_
  refine WQ_code ?_
  refine WC_ret ?_
  refine WQ_ret rfl rfl (.cons (.tmp rfl) .nil) rfl (by
      exact ⟨rfl, rfl⟩) (pqZ)
theorem xadv_zero (p : Nat) (now : Nat) : Spec Tryz.prog 15 [ptrP p, .int .u64 (now : Int)] [⟨some p, cl [.pointer none, .slice none 0 0, .int .u64 0, .int .u64 0, .int .i64 0, .int .i64 0, .int .i64 0, .int .i64 0, .int .u32 0, .int .u64 0, .map none, .slice none 0 0] 68⟩] (fun r H' => r = .int .i64 1 ∧ H' = [⟨some p, cl [.pointer none, .slice none 0 0, .int .u64 0, .int .u64 0, .int .i64 0, .int .i64 0, .int .i64 0, .int .i64 0, .int .u32 0, .int .u64 0, .map none, .slice none 0 0] 68⟩]) := by
  refine Spec.of (E := [(0, ptrP p), (1, .int .u64 (now : Int))]) Tryz.func15 rfl (by kernel_rfl) Tryz.ntmps15 rfl rfl (fun w => ?_)
  refine WC_seq ?_
  refine WC_region ?_
  refine WL_do rfl rfl rfl (D_box (cs := [_]) rfl rfl rfl) ?_
  rintro _ _ ⟨b1, rfl, rfl⟩
  refine WL_val rfl rfl rfl (R_assign rfl rfl) ?_
  refine WL_nil ?_
  refine WQ_code ?_
  refine WC_seq ?_
  refine WC_seq ?_
  refine WC_region ?_
  refine WL_val rfl rfl rfl (R_move rfl rfl) ?_
  refine WL_val rfl rfl rfl (R_load rfl sc25 rfl (mmZ) rfl) ?_
  refine WL_do rfl rfl rfl (D_call (xmay_zero p true now) rfl rfl rfl rfl (pqZ)) ?_
  rintro _ _ ⟨_, ⟨rfl, rfl⟩, rfl⟩
  refine WL_val rfl rfl rfl (R_assign rfl rfl) ?_
  refine WL_nil ?_
  refine WQ_code ?_
  refine WC_seq ?_
  refine WC_region ?_
  refine WL_val rfl rfl rfl (R_move rfl rfl) ?_
  refine WL_val rfl rfl rfl (R_neq rfl rfl rfl) ?_
  refine WL_nil ?_
  refine WQ_code ?_
  refine WC_dT rfl (by decide) ?_
  refine WC_seq ?_
  refine WC_region ?_
  refine WL_val rfl rfl rfl (R_move rfl rfl) ?_
  refine WL_val rfl rfl rfl (R_assign rfl rfl) ?_
  refine WL_nil ?_
  refine WQ_code ?_
  refine WC_ret ?_
  refine WQ_ret rfl rfl (.cons (.tmp rfl) .nil) rfl (by
      exact ⟨rfl, rfl⟩) (pqZ)
theorem xnext_nil  : Spec Tryz.prog 20 [.pointer none] [] (fun r H' => r = .tuple #[.agg #[.int .i64 0, .int .i64 0, .int .i64 0, .int .i64 0, .int .i64 0], .bool false] ∧ H' = []) := by
  refine Spec.of (E := [(0, .pointer none)]) Tryz.func20 rfl (by kernel_rfl) Tryz.ntmps20 rfl rfl (fun w => ?_)
  refine WC_seq ?_
  refine WC_region ?_
  refine WL_do rfl rfl rfl (D_alloc rfl zv63) ?_
  rintro _ _ ⟨b1, rfl, rfl⟩
  refine WL_val rfl rfl rfl (R_assign rfl rfl) ?_
  refine WL_nil ?_
  refine WQ_code ?_
  refine WC_seq ?_
  refine WC_seq ?_
  refine WC_region ?_
  refine WL_val rfl rfl rfl (R_move rfl rfl) ?_
  refine WL_val rfl rfl rfl (R_ptrEqNil rfl Tryz.underlying33 rfl) ?_
  refine WL_val rfl rfl rfl (R_move rfl rfl) ?_
  refine WL_skip rfl rfl rfl ?_
  refine WL_skip rfl rfl rfl ?_
  refine WL_skip rfl rfl rfl ?_
  refine WL_skip rfl rfl rfl ?_
  refine WL_skip rfl rfl rfl ?_
  refine WL_skip rfl rfl rfl ?_
  refine WL_val rfl rfl rfl (R_pickT rfl rfl rfl) ?_
  refine WL_nil ?_
  refine WQ_code ?_
  refine WC_T rfl ?_
  refine WC_seq ?_
  refine WC_region ?_
  refine WL_val rfl rfl rfl (R_build rfl zv63 pl63 rfl rfl) ?_
  refine WL_do0 rfl rfl (D_store (vs := [_, _, _, _, _]) rfl Tryz.sizeOf63 rfl rfl rfl rfl rfl (plZ) (by exact Nat.le_of_ble_eq_true rfl)) ?_
  rintro _ _ rfl
  refine WL_val rfl rfl rfl (R_assign rfl rfl) ?_
  refine WL_nil ?_
  refine WQ_code ?_
  refine WC_ret ?_
  refine WQ_ret rfl rfl (.cons (.cell (vs := [_, _, _, _, _]) rfl ag63 (mmZ) rfl (atZ)) (.cons (.tmp rfl) .nil)) rfl (by
      exact ⟨rfl, rfl⟩) (pqZ)
theorem xnext_zero (p : Nat)  : Spec Tryz.prog 20 [ptrP p] [⟨some p, cl [.pointer none, .slice none 0 0, .int .u64 0, .int .u64 0, .int .i64 0, .int .i64 0, .int .i64 0, .int .i64 0, .int .u32 0, .int .u64 0, .map none, .slice none 0 0] 68⟩] (fun r H' => r = .tuple #[.agg #[.int .i64 0, .int .i64 0, .int .i64 0, .int .i64 0, .int .i64 0], .bool false] ∧ H' = [⟨some p, cl [.pointer none, .slice none 0 0, .int .u64 0, .int .u64 0, .int .i64 0, .int .i64 0, .int .i64 0, .int .i64 0, .int .u32 0, .int .u64 0, .map none, .slice none 0 0] 68⟩]) := by
  refine Spec.of (E := [(0, ptrP p)]) Tryz.func20 rfl (by kernel_rfl) Tryz.ntmps20 rfl rfl (fun w => ?_)
  refine WC_seq ?_
  refine WC_region ?_
  refine WL_do rfl rfl rfl (D_alloc rfl zv63) ?_
  rintro _ _ ⟨b1, rfl, rfl⟩
  refine WL_val rfl rfl rfl (R_assign rfl rfl) ?_
  refine WL_nil ?_
  refine WQ_code ?_
  refine WC_seq ?_
  refine WC_seq ?_
  refine WC_region ?_
  refine WL_val rfl rfl rfl (R_move rfl rfl) ?_
  refine WL_val rfl rfl rfl (R_ptrEqNil rfl Tryz.underlying33 rfl) ?_
  refine WL_val rfl rfl rfl (R_move rfl rfl) ?_
  refine WL_val rfl rfl rfl (R_move rfl rfl) ?_
  refine WL_val rfl rfl rfl (R_nilCheck rfl rfl) ?_
  refine WL_val rfl rfl rfl (R_fieldAddr rfl fa68_5 rfl) ?_
  refine WL_val rfl rfl rfl (R_load rfl sc58 rfl (mmZ) rfl) ?_
  refine WL_val rfl rfl rfl (R_len rfl Tryz.underlying58 rfl) ?_
  refine WL_val rfl rfl rfl (R_eql rfl rfl rfl) ?_
  refine WL_val rfl rfl rfl (R_pickF rfl rfl rfl) ?_
  refine WL_nil ?_
  refine WQ_code ?_
  refine WC_dT rfl (by rfl) ?_
  refine WC_seq ?_
  refine WC_region ?_
  refine WL_val rfl rfl rfl (R_build rfl zv63 pl63 rfl rfl) ?_
  refine WL_do0 rfl rfl (D_store (vs := [_, _, _, _, _]) rfl Tryz.sizeOf63 rfl rfl rfl rfl rfl (plZ) (by exact Nat.le_of_ble_eq_true rfl)) ?_
  rintro _ _ rfl
  refine WL_val rfl rfl rfl (R_assign rfl rfl) ?_
  refine WL_nil ?_
  refine WQ_code ?_
  refine WC_ret ?_
  refine WQ_ret rfl rfl (.cons (.cell (vs := [_, _, _, _, _]) rfl ag63 (mmZ) rfl (atZ)) (.cons (.tmp rfl) .nil)) rfl (by
      exact ⟨rfl, rfl⟩) (pqZ)
end Go.Proofs.YtelmlkdibcdebaaGreat
end
section
set_option linter.unusedVariables false
set_option maxRecDepth 20000
set_option maxHeartbeats 2000000
namespace Go.Proofs.YtelmlkdibcdebaaGreat
theorem xcopy_nil  : Spec Tryz.prog 23 [.pointer none] [] (fun r H' => r = .pointer none ∧ H' = []) := by
  refine Spec.of (E := [(0, .pointer none)]) Tryz.func23 rfl (by kernel_rfl) Tryz.ntmps23 rfl rfl (fun w => ?_)
  refine WC_seq ?_
  refine WC_region ?_
  refine WL_val rfl rfl rfl (R_assign rfl rfl) ?_
  refine WL_nil ?_
  refine WQ_code ?_
  refine WC_seq ?_
  refine WC_seq ?_
  refine WC_region ?_
  refine WL_val rfl rfl rfl (R_move rfl rfl) ?_
  refine WL_val rfl rfl rfl (R_ptrEqNil rfl Tryz.underlying33 rfl) ?_
  refine WL_val rfl rfl rfl (R_move rfl rfl) ?_
  refine WL_skip rfl rfl rfl ?_
  refine WL_skip rfl rfl rfl ?_
  refine WL_skip rfl rfl rfl ?_
  refine WL_skip rfl rfl rfl ?_
  refine WL_skip rfl rfl rfl ?_
  refine WL_val rfl rfl rfl (R_pickT rfl rfl rfl) ?_
  refine WL_nil ?_
  refine WQ_code ?_
  refine WC_T rfl ?_
  refine WC_seq ?_
  refine WC_region ?_
  refine WL_val rfl rfl rfl (R_assign rfl rfl) ?_
  refine WL_nil ?_
  refine WQ_code ?_
  refine WC_ret ?_
  refine WQ_ret rfl rfl (.cons (.tmp rfl) .nil) rfl (by
      exact ⟨rfl, rfl⟩) (pqZ)
theorem xcopy_zero (p : Nat)  : Spec Tryz.prog 23 [ptrP p] [⟨some p, cl [.pointer none, .slice none 0 0, .int .u64 0, .int .u64 0, .int .i64 0, .int .i64 0, .int .i64 0, .int .i64 0, .int .u32 0, .int .u64 0, .map none, .slice none 0 0] 68⟩] (fun r H' => r = .pointer none ∧ H' = [⟨some p, cl [.pointer none, .slice none 0 0, .int .u64 0, .int .u64 0, .int .i64 0, .int .i64 0, .int .i64 0, .int .i64 0, .int .u32 0, .int .u64 0, .map none, .slice none 0 0] 68⟩]) := by
  refine Spec.of (E := [(0, ptrP p)]) Tryz.func23 rfl (by kernel_rfl) Tryz.ntmps23 rfl rfl (fun w => ?_)
  refine WC_seq ?_
  refine WC_region ?_
  refine WL_val rfl rfl rfl (R_assign rfl rfl) ?_
  refine WL_nil ?_
  refine WQ_code ?_
  refine WC_seq ?_
  refine WC_seq ?_
  refine WC_region ?_
  refine WL_val rfl rfl rfl (R_move rfl rfl) ?_
  refine WL_val rfl rfl rfl (R_ptrEqNil rfl Tryz.underlying33 rfl) ?_
  refine WL_val rfl rfl rfl (R_move rfl rfl) ?_
  refine WL_val rfl rfl rfl (R_move rfl rfl) ?_
  refine WL_val rfl rfl rfl (R_nilCheck rfl rfl) ?_
  refine WL_val rfl rfl rfl (R_fieldAddr rfl fa68_4 rfl) ?_
  refine WL_val rfl rfl rfl (R_load rfl sc66 rfl (mmZ) rfl) ?_
  refine WL_val rfl rfl rfl (R_mapEqNil rfl Tryz.underlying66 rfl) ?_
  refine WL_val rfl rfl rfl (R_pickF rfl rfl rfl) ?_
  refine WL_nil ?_
  refine WQ_code ?_
  refine WC_T rfl ?_
  refine WC_seq ?_
  refine WC_region ?_
  refine WL_val rfl rfl rfl (R_assign rfl rfl) ?_
  refine WL_nil ?_
  refine WQ_code ?_
  refine WC_ret ?_
  refine WQ_ret rfl rfl (.cons (.tmp rfl) .nil) rfl (by
      exact ⟨rfl, rfl⟩) (pqZ)
theorem xbegin_nil (n : Int) (now dl : Nat) (key : ByteArray) : Spec Tryz.prog 12 [.pointer none, .int .i64 n, .int .u64 (now : Int), .int .u64 (dl : Int), .string key] [] (fun r H' => r = .int .i64 1 ∧ H' = []) := by
  refine Spec.of (E := [(0, .pointer none), (1, .int .i64 n), (2, .int .u64 (now : Int)), (3, .int .u64 (dl : Int)), (4, .string key)]) Tryz.func12 rfl (by kernel_rfl) Tryz.ntmps12 rfl rfl (fun w => ?_)
  refine WC_seq ?_
  refine WC_region ?_
  refine WL_val rfl rfl rfl (R_assign rfl rfl) ?_
  refine WL_nil ?_
  refine WQ_code ?_
  refine WC_seq ?_
  refine WC_region ?_
  refine WL_val rfl rfl rfl (R_move rfl rfl) ?_
  refine WL_val rfl rfl rfl (R_move rfl rfl) ?_
  refine WL_do rfl rfl rfl (D_call (xright_ok n) rfl rfl rfl rfl (pqZ)) ?_
  rintro _ _ ⟨_, ⟨rfl, rfl⟩, rfl⟩
  refine WL_val rfl rfl rfl (R_move rfl rfl) ?_
  refine WL_splitD (s := 16) rfl (fun c1 => ?_) (fun c1 => ?_)
  · refine WL_val rfl rfl rfl (R_move rfl rfl) ?_
    refine WL_val rfl rfl rfl (R_lenStr rfl Tryz.underlying9 rfl) ?_
    refine WL_val rfl rfl rfl (R_leq rfl rfl rfl) ?_
    refine WL_val rfl rfl rfl (R_pickT rfl rfl rfl) ?_
    refine WL_val rfl rfl rfl (R_move rfl rfl) ?_
    refine WL_do rfl rfl rfl (D_call (xmay_nil _ now) rfl rfl rfl rfl (pqZ)) ?_
    rintro _ _ ⟨_, ⟨rfl, rfl⟩, rfl⟩
    refine WL_val rfl rfl rfl (R_assign rfl rfl) ?_
    refine WL_nil ?_
    refine WQ_code ?_
    refine WC_seq ?_
    refine WC_block ?_
    refine WC_seq ?_
    refine WC_region ?_
    refine WL_val rfl rfl rfl (R_move rfl rfl) ?_
    refine WL_val rfl rfl rfl (R_neq rfl rfl rfl) ?_
    refine WL_val rfl rfl rfl (R_assign rfl rfl) ?_
    refine WL_nil ?_
    refine WQ_code ?_
    refine WC_dT rfl (by decide) ?_
    refine WC_seq ?_
    refine WC_region ?_
    refine WL_val rfl rfl rfl (R_move rfl rfl) ?_
    refine WL_val rfl rfl rfl (R_assign rfl rfl) ?_
    refine WL_nil ?_
    refine WQ_code ?_
    refine WC_ret ?_
    refine WQ_ret rfl rfl (.cons (.tmp rfl) .nil) rfl (by
        exact ⟨rfl, rfl⟩) (pqZ)
  · refine WL_skip rfl rfl rfl ?_
    refine WL_skip rfl rfl rfl ?_
    refine WL_skip rfl rfl rfl ?_
    refine WL_val rfl rfl rfl (R_pickF rfl rfl rfl) ?_
    refine WL_val rfl rfl rfl (R_move rfl rfl) ?_
    refine WL_do rfl rfl rfl (D_call (xmay_nil _ now) rfl rfl rfl rfl (pqZ)) ?_
    rintro _ _ ⟨_, ⟨rfl, rfl⟩, rfl⟩
    refine WL_val rfl rfl rfl (R_assign rfl rfl) ?_
    refine WL_nil ?_
    refine WQ_code ?_
    refine WC_seq ?_
    refine WC_block ?_
    refine WC_seq ?_
    refine WC_region ?_
    refine WL_val rfl rfl rfl (R_move rfl rfl) ?_
    refine WL_val rfl rfl rfl (R_neq rfl rfl rfl) ?_
    refine WL_val rfl rfl rfl (R_assign rfl rfl) ?_
    refine WL_nil ?_
    refine WQ_code ?_
    refine WC_dT rfl (by decide) ?_
    refine WC_seq ?_
    refine WC_region ?_
    refine WL_val rfl rfl rfl (R_move rfl rfl) ?_
    refine WL_val rfl rfl rfl (R_assign rfl rfl) ?_
    refine WL_nil ?_
    refine WQ_code ?_
    refine WC_ret ?_
    refine WQ_ret rfl rfl (.cons (.tmp rfl) .nil) rfl (by
        exact ⟨rfl, rfl⟩) (pqZ)
theorem xbegin_zero (p : Nat) (n : Int) (now dl : Nat) (key : ByteArray) : Spec Tryz.prog 12 [ptrP p, .int .i64 n, .int .u64 (now : Int), .int .u64 (dl : Int), .string key] [⟨some p, cl [.pointer none, .slice none 0 0, .int .u64 0, .int .u64 0, .int .i64 0, .int .i64 0, .int .i64 0, .int .i64 0, .int .u32 0, .int .u64 0, .map none, .slice none 0 0] 68⟩] (fun r H' => r = .int .i64 1 ∧ H' = [⟨some p, cl [.pointer none, .slice none 0 0, .int .u64 0, .int .u64 0, .int .i64 0, .int .i64 0, .int .i64 0, .int .i64 0, .int .u32 0, .int .u64 0, .map none, .slice none 0 0] 68⟩]) := by
  refine Spec.of (E := [(0, ptrP p), (1, .int .i64 n), (2, .int .u64 (now : Int)), (3, .int .u64 (dl : Int)), (4, .string key)]) Tryz.func12 rfl (by kernel_rfl) Tryz.ntmps12 rfl rfl (fun w => ?_)
  refine WC_seq ?_
  refine WC_region ?_
  refine WL_val rfl rfl rfl (R_assign rfl rfl) ?_
  refine WL_nil ?_
  refine WQ_code ?_
  refine WC_seq ?_
  refine WC_region ?_
  refine WL_val rfl rfl rfl (R_move rfl rfl) ?_
  refine WL_val rfl rfl rfl (R_move rfl rfl) ?_
  refine WL_do rfl rfl rfl (D_call (xright_ok n) rfl rfl rfl rfl (pqZ)) ?_
  rintro _ _ ⟨_, ⟨rfl, rfl⟩, rfl⟩
  refine WL_val rfl rfl rfl (R_move rfl rfl) ?_
  refine WL_splitD (s := 16) rfl (fun c1 => ?_) (fun c1 => ?_)
  · refine WL_val rfl rfl rfl (R_move rfl rfl) ?_
    refine WL_val rfl rfl rfl (R_lenStr rfl Tryz.underlying9 rfl) ?_
    refine WL_val rfl rfl rfl (R_leq rfl rfl rfl) ?_
    refine WL_val rfl rfl rfl (R_pickT rfl rfl rfl) ?_
    refine WL_val rfl rfl rfl (R_move rfl rfl) ?_
    refine WL_do rfl rfl rfl (D_call (xmay_zero p _ now) rfl rfl rfl rfl (pqZ)) ?_
    rintro _ _ ⟨_, ⟨rfl, rfl⟩, rfl⟩
    refine WL_val rfl rfl rfl (R_assign rfl rfl) ?_
    refine WL_nil ?_
    refine WQ_code ?_
    refine WC_seq ?_
    refine WC_block ?_
    refine WC_seq ?_
    refine WC_region ?_
    refine WL_val rfl rfl rfl (R_move rfl rfl) ?_
    refine WL_val rfl rfl rfl (R_neq rfl rfl rfl) ?_
    refine WL_val rfl rfl rfl (R_assign rfl rfl) ?_
    refine WL_nil ?_
    refine WQ_code ?_
    refine WC_dT rfl (by decide) ?_
    refine WC_seq ?_
    refine WC_region ?_
    refine WL_val rfl rfl rfl (R_move rfl rfl) ?_
    refine WL_val rfl rfl rfl (R_assign rfl rfl) ?_
    refine WL_nil ?_
    refine WQ_code ?_
    refine WC_ret ?_
    refine WQ_ret rfl rfl (.cons (.tmp rfl) .nil) rfl (by
        exact ⟨rfl, rfl⟩) (pqZ)
  · refine WL_skip rfl rfl rfl ?_
    refine WL_skip rfl rfl rfl ?_
    refine WL_skip rfl rfl rfl ?_
    refine WL_val rfl rfl rfl (R_pickF rfl rfl rfl) ?_
    refine WL_val rfl rfl rfl (R_move rfl rfl) ?_
    refine WL_do rfl rfl rfl (D_call (xmay_zero p _ now) rfl rfl rfl rfl (pqZ)) ?_
    rintro _ _ ⟨_, ⟨rfl, rfl⟩, rfl⟩
    refine WL_val rfl rfl rfl (R_assign rfl rfl) ?_
    refine WL_nil ?_
    refine WQ_code ?_
    refine WC_seq ?_
    refine WC_block ?_
    refine WC_seq ?_
    refine WC_region ?_
    refine WL_val rfl rfl rfl (R_move rfl rfl) ?_
    refine WL_val rfl rfl rfl (R_neq rfl rfl rfl) ?_
    refine WL_val rfl rfl rfl (R_assign rfl rfl) ?_
    refine WL_nil ?_
    refine WQ_code ?_
    refine WC_dT rfl (by decide) ?_
    refine WC_seq ?_
    refine WC_region ?_
    refine WL_val rfl rfl rfl (R_move rfl rfl) ?_
    refine WL_val rfl rfl rfl (R_assign rfl rfl) ?_
    refine WL_nil ?_
    refine WQ_code ?_
    refine WC_ret ?_
    refine WQ_ret rfl rfl (.cons (.tmp rfl) .nil) rfl (by
        exact ⟨rfl, rfl⟩) (pqZ)
end Go.Proofs.YtelmlkdibcdebaaGreat
end
section
set_option linter.unusedVariables false
set_option maxRecDepth 20000
set_option maxHeartbeats 2000000
namespace Go.Proofs.YtelmlkdibcdebaaGreat
theorem xstate_nil (n : Int) : Spec Tryz.prog 18 [.pointer none, .int .i64 n] [] (fun r H' => r = .tuple #[.int .i64 0, .int .i64 (-1), .int .i64 (-1)] ∧ H' = []) := by
  refine Spec.of (E := [(0, .pointer none), (1, .int .i64 n)]) Tryz.func18 rfl (by kernel_rfl) Tryz.ntmps18 rfl rfl (fun w => ?_)
  refine WC_seq ?_
  refine WC_region ?_
  refine WL_val rfl rfl rfl (R_assign rfl rfl) ?_
  refine WL_val rfl rfl rfl (R_assign rfl rfl) ?_
  refine WL_val rfl rfl rfl (R_assign rfl rfl) ?_
  refine WL_nil ?_
  refine WQ_code ?_
  refine WC_seq ?_
  refine WC_seq ?_
  refine WC_region ?_
  refine WL_val rfl rfl rfl (R_move rfl rfl) ?_
  refine WL_val rfl rfl rfl (R_ptrEqNil rfl Tryz.underlying33 rfl) ?_
  refine WL_val rfl rfl rfl (R_move rfl rfl) ?_
  refine WL_skip rfl rfl rfl ?_
  refine WL_skip rfl rfl rfl ?_
  refine WL_skip rfl rfl rfl ?_
  refine WL_skip rfl rfl rfl ?_
  refine WL_skip rfl rfl rfl ?_
  refine WL_skip rfl rfl rfl ?_
  refine WL_skip rfl rfl rfl ?_
  refine WL_val rfl rfl rfl (R_pickT rfl rfl rfl) ?_
  refine WL_nil ?_
  refine WQ_code ?_
  refine WC_T rfl ?_
  refine WC_seq ?_
  refine WC_region ?_
  refine WL_val rfl rfl rfl (R_assign rfl rfl) ?_
  refine WL_val rfl rfl rfl (R_assign rfl rfl) ?_
  refine WL_val rfl rfl rfl (R_assign rfl rfl) ?_
  refine WL_nil ?_
  refine WQ_code ?_
  refine WC_ret ?_
  refine WQ_ret rfl rfl (.cons (.tmp rfl) (.cons (.tmp rfl) (.cons (.tmp rfl) .nil))) rfl (by
      exact ⟨rfl, rfl⟩) (pqZ)
theorem xstate_zero (p : Nat) (n : Int) : Spec Tryz.prog 18 [ptrP p, .int .i64 n] [⟨some p, cl [.pointer none, .slice none 0 0, .int .u64 0, .int .u64 0, .int .i64 0, .int .i64 0, .int .i64 0, .int .i64 0, .int .u32 0, .int .u64 0, .map none, .slice none 0 0] 68⟩] (fun r H' => r = .tuple #[.int .i64 0, .int .i64 (-1), .int .i64 (-1)] ∧ H' = [⟨some p, cl [.pointer none, .slice none 0 0, .int .u64 0, .int .u64 0, .int .i64 0, .int .i64 0, .int .i64 0, .int .i64 0, .int .u32 0, .int .u64 0, .map none, .slice none 0 0] 68⟩]) := by
  refine Spec.of (E := [(0, ptrP p), (1, .int .i64 n)]) Tryz.func18 rfl (by kernel_rfl) Tryz.ntmps18 rfl rfl (fun w => ?_)
  refine WC_seq ?_
  refine WC_region ?_
  refine WL_val rfl rfl rfl (R_assign rfl rfl) ?_
  refine WL_val rfl rfl rfl (R_assign rfl rfl) ?_
  refine WL_val rfl rfl rfl (R_assign rfl rfl) ?_
  refine WL_nil ?_
  refine WQ_code ?_
  refine WC_seq ?_
  refine WC_seq ?_
  refine WC_region ?_
  refine WL_val rfl rfl rfl (R_move rfl rfl) ?_
  refine WL_val rfl rfl rfl (R_ptrEqNil rfl Tryz.underlying33 rfl) ?_
  refine WL_val rfl rfl rfl (R_move rfl rfl) ?_
  refine WL_val rfl rfl rfl (R_move rfl rfl) ?_
  refine WL_val rfl rfl rfl (R_nilCheck rfl rfl) ?_
  refine WL_val rfl rfl rfl (R_fieldAddr rfl fa68_4 rfl) ?_
  refine WL_val rfl rfl rfl (R_load rfl sc66 rfl (mmZ) rfl) ?_
  refine WL_val rfl rfl rfl (R_move rfl rfl) ?_
  refine WL_val rfl rfl rfl (R_lookN (k := n) (zv := .pointer none) rfl Tryz.underlying66 int_key rfl rfl (fun w => Tryz.zeroValue87 w)) ?_
  refine WL_val rfl rfl rfl (R_ptrEqNil rfl Tryz.underlying87 rfl) ?_
  refine WL_val rfl rfl rfl (R_pickF rfl rfl rfl) ?_
  refine WL_nil ?_
  refine WQ_code ?_
  refine WC_T rfl ?_
  refine WC_seq ?_
  refine WC_region ?_
  refine WL_val rfl rfl rfl (R_assign rfl rfl) ?_
  refine WL_val rfl rfl rfl (R_assign rfl rfl) ?_
  refine WL_val rfl rfl rfl (R_assign rfl rfl) ?_
  refine WL_nil ?_
  refine WQ_code ?_
  refine WC_ret ?_
  refine WQ_ret rfl rfl (.cons (.tmp rfl) (.cons (.tmp rfl) (.cons (.tmp rfl) .nil))) rfl (by
      exact ⟨rfl, rfl⟩) (pqZ)
end Go.Proofs.YtelmlkdibcdebaaGreat
end
section
set_option linter.unusedVariables false
set_option maxRecDepth 20000
set_option maxHeartbeats 2000000
namespace Go.Proofs.YtelmlkdibcdebaaGreat
theorem lisn_nil (n : Int) : Spec Tryz.prog 21 [.pointer none, .int .i64 n, .int .i64 0, .int .i64 (-1), .int .i64 (-1)] [] (fun r H' => r = .bool true ∧ H' = []) := by
  refine Spec.of (E := [(0, .pointer none), (1, .int .i64 n), (2, .int .i64 0), (3, .int .i64 (-1)), (4, .int .i64 (-1))]) Tryz.func21 rfl (by kernel_rfl) Tryz.ntmps21 rfl rfl (fun w => ?_)
  refine WC_seq ?_
  refine WC_region ?_
  refine WL_val rfl rfl rfl (R_assign rfl rfl) ?_
  refine WL_nil ?_
  refine WQ_code ?_
  refine WC_seq ?_
  refine WC_region ?_
  refine WL_val rfl rfl rfl (R_move rfl rfl) ?_
  refine WL_val rfl rfl rfl (R_move rfl rfl) ?_
  refine WL_do rfl rfl rfl (D_call (xstate_nil n) rfl rfl rfl rfl (pqZ)) ?_
  rintro _ _ ⟨_, ⟨rfl, rfl⟩, rfl⟩
  refine WL_val rfl rfl rfl (R_move rfl rfl) ?_
  refine WL_val rfl rfl rfl (R_extract rfl rfl rfl) ?_
  refine WL_val rfl rfl rfl (R_extract rfl rfl rfl) ?_
  refine WL_val rfl rfl rfl (R_extract rfl rfl rfl) ?_
  refine WL_val rfl rfl rfl (R_assign rfl rfl) ?_
  refine WL_val rfl rfl rfl (R_assign rfl rfl) ?_
  refine WL_val rfl rfl rfl (R_assign rfl rfl) ?_
  refine WL_nil ?_
  refine WQ_code ?_
  refine WC_seq ?_
  refine WC_region ?_
  refine WL_val rfl rfl rfl (R_move rfl rfl) ?_
  refine WL_val rfl rfl rfl (R_move rfl rfl) ?_
  refine WL_val rfl rfl rfl (R_eql rfl rfl rfl) ?_
  refine WL_val rfl rfl rfl (R_move rfl rfl) ?_
  refine WL_set (s := 24) (v := .bool true) rfl (by simp) ?_
  refine WL_val rfl rfl rfl (R_move rfl rfl) ?_
  refine WL_val rfl rfl rfl (R_move rfl rfl) ?_
  refine WL_val rfl rfl rfl (R_eql rfl rfl rfl) ?_
  refine WL_val rfl rfl rfl (R_pickT rfl rfl rfl) ?_
  refine WL_val rfl rfl rfl (R_move rfl rfl) ?_
  refine WL_set (s := 29) (v := .bool true) rfl (by simp) ?_
  refine WL_val rfl rfl rfl (R_move rfl rfl) ?_
  refine WL_val rfl rfl rfl (R_move rfl rfl) ?_
  refine WL_val rfl rfl rfl (R_eql rfl rfl rfl) ?_
  refine WL_val rfl rfl rfl (R_pickT rfl rfl rfl) ?_
  refine WL_val rfl rfl rfl (R_assign rfl rfl) ?_
  refine WL_nil ?_
  refine WQ_code ?_
  refine WC_ret ?_
  refine WQ_ret rfl rfl (.cons (.tmp rfl) .nil) rfl (by
      exact ⟨congrArg Value.bool (by simp), rfl⟩) (pqZ)
theorem lisn_zero (p : Nat) (n : Int) : Spec Tryz.prog 21 [ptrP p, .int .i64 n, .int .i64 0, .int .i64 (-1), .int .i64 (-1)] [⟨some p, cl [.pointer none, .slice none 0 0, .int .u64 0, .int .u64 0, .int .i64 0, .int .i64 0, .int .i64 0, .int .i64 0, .int .u32 0, .int .u64 0, .map none, .slice none 0 0] 68⟩] (fun r H' => r = .bool true ∧ H' = [⟨some p, cl [.pointer none, .slice none 0 0, .int .u64 0, .int .u64 0, .int .i64 0, .int .i64 0, .int .i64 0, .int .i64 0, .int .u32 0, .int .u64 0, .map none, .slice none 0 0] 68⟩]) := by
  refine Spec.of (E := [(0, ptrP p), (1, .int .i64 n), (2, .int .i64 0), (3, .int .i64 (-1)), (4, .int .i64 (-1))]) Tryz.func21 rfl (by kernel_rfl) Tryz.ntmps21 rfl rfl (fun w => ?_)
  refine WC_seq ?_
  refine WC_region ?_
  refine WL_val rfl rfl rfl (R_assign rfl rfl) ?_
  refine WL_nil ?_
  refine WQ_code ?_
  refine WC_seq ?_
  refine WC_region ?_
  refine WL_val rfl rfl rfl (R_move rfl rfl) ?_
  refine WL_val rfl rfl rfl (R_move rfl rfl) ?_
  refine WL_do rfl rfl rfl (D_call (xstate_zero p n) rfl rfl rfl rfl (pqZ)) ?_
  rintro _ _ ⟨_, ⟨rfl, rfl⟩, rfl⟩
  refine WL_val rfl rfl rfl (R_move rfl rfl) ?_
  refine WL_val rfl rfl rfl (R_extract rfl rfl rfl) ?_
  refine WL_val rfl rfl rfl (R_extract rfl rfl rfl) ?_
  refine WL_val rfl rfl rfl (R_extract rfl rfl rfl) ?_
  refine WL_val rfl rfl rfl (R_assign rfl rfl) ?_
  refine WL_val rfl rfl rfl (R_assign rfl rfl) ?_
  refine WL_val rfl rfl rfl (R_assign rfl rfl) ?_
  refine WL_nil ?_
  refine WQ_code ?_
  refine WC_seq ?_
  refine WC_region ?_
  refine WL_val rfl rfl rfl (R_move rfl rfl) ?_
  refine WL_val rfl rfl rfl (R_move rfl rfl) ?_
  refine WL_val rfl rfl rfl (R_eql rfl rfl rfl) ?_
  refine WL_val rfl rfl rfl (R_move rfl rfl) ?_
  refine WL_set (s := 24) (v := .bool true) rfl (by simp) ?_
  refine WL_val rfl rfl rfl (R_move rfl rfl) ?_
  refine WL_val rfl rfl rfl (R_move rfl rfl) ?_
  refine WL_val rfl rfl rfl (R_eql rfl rfl rfl) ?_
  refine WL_val rfl rfl rfl (R_pickT rfl rfl rfl) ?_
  refine WL_val rfl rfl rfl (R_move rfl rfl) ?_
  refine WL_set (s := 29) (v := .bool true) rfl (by simp) ?_
  refine WL_val rfl rfl rfl (R_move rfl rfl) ?_
  refine WL_val rfl rfl rfl (R_move rfl rfl) ?_
  refine WL_val rfl rfl rfl (R_eql rfl rfl rfl) ?_
  refine WL_val rfl rfl rfl (R_pickT rfl rfl rfl) ?_
  refine WL_val rfl rfl rfl (R_assign rfl rfl) ?_
  refine WL_nil ?_
  refine WQ_code ?_
  refine WC_ret ?_
  refine WQ_ret rfl rfl (.cons (.tmp rfl) .nil) rfl (by
      exact ⟨congrArg Value.bool (by simp), rfl⟩) (pqZ)
theorem none_ok (wt n : Int) (now dl : Nat) (key : ByteArray) (good : Bool) : Spec Tryz.prog 6 [.agg #[.int .i64 wt, .int .i64 n, .int .u64 (now : Int), .int .u64 (dl : Int), .string key, .bool good]] [] (fun r H' => r = .bool true ∧ H' = []) := by
  refine Spec.of (E := [(0, .agg #[.int .i64 wt, .int .i64 n, .int .u64 (now : Int), .int .u64 (dl : Int), .string key, .bool good])]) Tryz.func6 rfl (by kernel_rfl) Tryz.ntmps6 rfl rfl (fun w => ?_)
  refine WC_seq ?_
  refine WC_region ?_
  refine WL_do rfl rfl rfl (D_box (cs := [_, _, _, _, _, _]) rfl rfl rfl) ?_
  rintro _ _ ⟨b1, rfl, rfl⟩
  refine WL_val rfl rfl rfl (R_assign rfl rfl) ?_
  refine WL_nil ?_
  refine WQ_code ?_
  refine WC_seq ?_
  refine WC_seq ?_
  refine WC_region ?_
  refine WL_val rfl rfl rfl (R_fieldAddr rfl fa43_4 rfl) ?_
  refine WL_val rfl rfl rfl (R_load rfl sc9 rfl (mmZ) rfl) ?_
  refine WL_val rfl rfl rfl (R_lenStr rfl Tryz.underlying9 rfl) ?_
  refine WL_val rfl rfl rfl (R_gtr rfl rfl rfl) ?_
  refine WL_nil ?_
  refine WQ_code ?_
  refine WC_dec rfl (fun c1 => ?_) (fun c1 => ?_)
  · refine WC_seq ?_
    refine WC_region ?_
    refine WL_do rfl rfl rfl (D_call (known_ok) rfl rfl rfl rfl (pqZ)) ?_
    rintro _ _ ⟨_, ⟨rfl, rfl⟩, rfl⟩
    refine WL_val rfl rfl rfl (R_assign rfl rfl) ?_
    refine WL_nil ?_
    refine WQ_code ?_
    refine WC_ret ?_
    refine WQ_ret rfl rfl (.cons (.tmp rfl) .nil) rfl (by
        exact ⟨rfl, rfl⟩) (pqZ)
  · refine WC_skip ?_
    refine WQ_code ?_
    refine WC_seq ?_
    refine WC_seq ?_
    refine WC_region ?_
    refine WL_val rfl rfl rfl (R_build rfl zv68 pl68 rfl rfl) ?_
    refine WL_do rfl rfl rfl (D_box (cs := [_, _, _, _, _, _, _, _, _, _, _, _]) rfl rfl rfl) ?_
    rintro _ _ ⟨b2, rfl, rfl⟩
    refine WL_do rfl rfl rfl (D_buildSlice rfl si69 rfl rfl rfl) ?_
    rintro _ _ ⟨b3, rfl, rfl⟩
    refine WL_val rfl rfl rfl (R_len rfl Tryz.underlying69 rfl) ?_
    refine WL_val rfl rfl rfl (R_move rfl rfl) ?_
    refine WL_nil ?_
    refine WQ_code ?_
    refine WC_block ?_
    skip
    skip
    refine WC_loopF (G := Nat) [2, 4, 5, 6, 16, 17, 18, 19, 20, 21, 22, 23, 24, 25, 26, 27, 28, 29, 30, 31, 32, 33, 34, 35, 36, 37, 38, 39, 40, 41, 42, 43, 44, 45, 46, 47, 48, 49, 50, 51, 52, 53, 54, 55, 56, 57, 58, 59, 60, 61, 62, 63, 64, 65, 66, 67, 68, 69, 70, 71, 72, 73, 74, 75, 76, 77, 78, 79, 80, 81, 82, 83, 84, 85, 86, 87, 88, 89, 90] (fun y => y ≤ 2) (fun y => [(16, .int .i64 (y : Int))]) (fun y => [⟨some b2, cl [.pointer none, .slice none 0 0, .int .u64 0, .int .u64 0, .int .i64 0, .int .i64 0, .int .i64 0, .int .i64 0, .int .u32 0, .int .u64 0, .map none, .slice none 0 0] 68⟩]) (fun y => 2 - y) (0) (by omega) leZ (pqZ) ?_
    rintro y hy
    refine WC_seq ?_
    refine WC_region ?_
    refine WL_val rfl rfl rfl (R_lss rfl rfl rfl) ?_
    refine WL_nil ?_
    refine WQ_code ?_
    refine WC_seq ?_
    refine WC_dec rfl (fun c2 => ?_) (fun c2 => ?_)
    · obtain rfl | rfl : y = 0 ∨ y = 1 := by omega
      · refine WC_skip ?_
        refine WQ_code ?_
        refine WC_seq ?_
        refine WC_block ?_
        refine WC_seq ?_
        refine WC_region ?_
        refine WL_val rfl rfl rfl (R_indexAddrN rfl Tryz.underlying69 Tryz.sizeOf33 rfl rfl (by omega)) ?_
        refine WL_val rfl rfl rfl (R_load (v := .pointer none) rfl sc33 rfl (mmZ) (rfl)) ?_
        refine WL_val rfl rfl rfl (R_assign rfl rfl) ?_
        refine WL_nil ?_
        refine WQ_code ?_
        refine WC_seq ?_
        refine WC_region ?_
        refine WL_val rfl rfl rfl (R_move rfl rfl) ?_
        refine WL_do rfl rfl rfl (D_call (xnext_nil ) rfl rfl rfl rfl (pqZ)) ?_
        rintro _ _ ⟨_, ⟨rfl, rfl⟩, rfl⟩
        refine WL_val rfl rfl rfl (R_move rfl rfl) ?_
        refine WL_val rfl rfl rfl (R_extract rfl rfl rfl) ?_
        refine WL_val rfl rfl rfl (R_extract rfl rfl rfl) ?_
        refine WL_do rfl rfl rfl (D_alloc rfl zv63) ?_
        rintro _ _ ⟨b4, rfl, rfl⟩
        refine WL_do0 rfl rfl (D_store (vs := [_, _, _, _, _]) rfl Tryz.sizeOf63 rfl rfl rfl rfl rfl (plZ) (by exact Nat.le_of_ble_eq_true rfl)) ?_
        rintro _ _ rfl
        refine WL_val rfl rfl rfl (R_assign rfl rfl) ?_
        refine WL_set (s := 6) (v := .bool false) rfl (by rfl) ?_
        refine WL_nil ?_
        refine WQ_code ?_
        refine WC_seq ?_
        refine WC_region ?_
        refine WL_val rfl rfl rfl (R_move rfl rfl) ?_
        refine WL_val rfl rfl rfl (R_fieldAddr rfl fa43_1 rfl) ?_
        refine WL_val rfl rfl rfl (R_load rfl sc3 rfl (mmZ) rfl) ?_
        refine WL_val rfl rfl rfl (R_fieldAddr rfl fa43_2 rfl) ?_
        refine WL_val rfl rfl rfl (R_load rfl sc25 rfl (mmZ) rfl) ?_
        refine WL_val rfl rfl rfl (R_fieldAddr rfl fa43_3 rfl) ?_
        refine WL_val rfl rfl rfl (R_load rfl sc25 rfl (mmZ) rfl) ?_
        refine WL_val rfl rfl rfl (R_fieldAddr rfl fa43_4 rfl) ?_
        refine WL_val rfl rfl rfl (R_load rfl sc9 rfl (mmZ) rfl) ?_
        refine WL_do rfl rfl rfl (D_call (xbegin_nil n now dl key) rfl rfl rfl rfl (pqZ)) ?_
        rintro _ _ ⟨_, ⟨rfl, rfl⟩, rfl⟩
        refine WL_val rfl rfl rfl (R_neq rfl rfl rfl) ?_
        refine WL_val rfl rfl rfl (R_move rfl rfl) ?_
        refine WL_set (s := 36) (v := .bool false) rfl (by simp) ?_
        refine WL_val rfl rfl rfl (R_move rfl rfl) ?_
        refine WL_val rfl rfl rfl (R_fieldAddr rfl fa43_1 rfl) ?_
        refine WL_val rfl rfl rfl (R_load rfl sc3 rfl (mmZ) rfl) ?_
        refine WL_val rfl rfl rfl (R_fieldAddr rfl fa43_5 rfl) ?_
        refine WL_val rfl rfl rfl (R_load rfl sc4 rfl (mmZ) rfl) ?_
        refine WL_val rfl rfl rfl (R_fieldAddr rfl fa43_2 rfl) ?_
        refine WL_val rfl rfl rfl (R_load rfl sc25 rfl (mmZ) rfl) ?_
        refine WL_do rfl rfl rfl (D_call (xdialed_nil n good now) rfl rfl rfl rfl (pqZ)) ?_
        rintro _ _ ⟨_, ⟨rfl, rfl⟩, rfl⟩
        refine WL_val rfl rfl rfl (R_neq rfl rfl rfl) ?_
        refine WL_val rfl rfl rfl (R_pickF rfl rfl rfl) ?_
        refine WL_val rfl rfl rfl (R_move rfl rfl) ?_
        refine WL_set (s := 47) (v := .bool false) rfl (by simp) ?_
        refine WL_val rfl rfl rfl (R_move rfl rfl) ?_
        refine WL_val rfl rfl rfl (R_fieldAddr rfl fa43_1 rfl) ?_
        refine WL_val rfl rfl rfl (R_load rfl sc3 rfl (mmZ) rfl) ?_
        refine WL_val rfl rfl rfl (R_fieldAddr rfl fa43_5 rfl) ?_
        refine WL_val rfl rfl rfl (R_load rfl sc4 rfl (mmZ) rfl) ?_
        refine WL_val rfl rfl rfl (R_fieldAddr rfl fa43_2 rfl) ?_
        refine WL_val rfl rfl rfl (R_load rfl sc25 rfl (mmZ) rfl) ?_
        refine WL_do rfl rfl rfl (D_call (xend_nil n good now) rfl rfl rfl rfl (pqZ)) ?_
        rintro _ _ ⟨_, ⟨rfl, rfl⟩, rfl⟩
        refine WL_val rfl rfl rfl (R_neq rfl rfl rfl) ?_
        refine WL_val rfl rfl rfl (R_pickF rfl rfl rfl) ?_
        refine WL_val rfl rfl rfl (R_move rfl rfl) ?_
        refine WL_set (s := 58) (v := .bool false) rfl (by simp) ?_
        refine WL_val rfl rfl rfl (R_move rfl rfl) ?_
        refine WL_val rfl rfl rfl (R_fieldAddr rfl fa43_2 rfl) ?_
        refine WL_val rfl rfl rfl (R_load rfl sc25 rfl (mmZ) rfl) ?_
        refine WL_do rfl rfl rfl (D_call (xadv_nil now) rfl rfl rfl rfl (pqZ)) ?_
        rintro _ _ ⟨_, ⟨rfl, rfl⟩, rfl⟩
        refine WL_val rfl rfl rfl (R_neq rfl rfl rfl) ?_
        refine WL_val rfl rfl rfl (R_pickF rfl rfl rfl) ?_
        refine WL_val rfl rfl rfl (R_move rfl rfl) ?_
        refine WL_set (s := 65) (v := .bool false) rfl (by simp) ?_
        refine WL_val rfl rfl rfl (R_loadA (vs := [_, _, _, _, _]) rfl ag63 rfl (mmZ) rfl (atZ)) ?_
        refine WL_val rfl rfl rfl (R_build rfl zv63 pl63 rfl rfl) ?_
        refine WL_val rfl rfl rfl (R_sne63 rfl rfl rfl rfl) ?_
        refine WL_set (s := 68) (v := .bool false) rfl (by exact congrArg Value.bool (by simp)) ?_
        refine WL_val rfl rfl rfl (R_pickF rfl rfl rfl) ?_
        refine WL_val rfl rfl rfl (R_move rfl rfl) ?_
        refine WL_val rfl rfl rfl (R_move rfl rfl) ?_
        refine WL_val rfl rfl rfl (R_pickF rfl rfl rfl) ?_
        refine WL_val rfl rfl rfl (R_move rfl rfl) ?_
        refine WL_val rfl rfl rfl (R_move rfl rfl) ?_
        refine WL_val rfl rfl rfl (R_fieldAddr rfl fa43_1 rfl) ?_
        refine WL_val rfl rfl rfl (R_load rfl sc3 rfl (mmZ) rfl) ?_
        refine WL_do rfl rfl rfl (D_call (lisn_nil n) rfl rfl rfl rfl (pqZ)) ?_
        rintro _ _ ⟨_, ⟨rfl, rfl⟩, rfl⟩
        refine WL_val rfl rfl rfl (R_not rfl rfl) ?_
        refine WL_val rfl rfl rfl (R_pickF rfl rfl rfl) ?_
        refine WL_val rfl rfl rfl (R_move rfl rfl) ?_
        refine WL_val rfl rfl rfl (R_move rfl rfl) ?_
        refine WL_do rfl rfl rfl (D_call (xdue_nil ) rfl rfl rfl rfl (pqZ)) ?_
        rintro _ _ ⟨_, ⟨rfl, rfl⟩, rfl⟩
        refine WL_val rfl rfl rfl (R_neq rfl rfl rfl) ?_
        refine WL_val rfl rfl rfl (R_pickF rfl rfl rfl) ?_
        refine WL_val rfl rfl rfl (R_move rfl rfl) ?_
        refine WL_set (s := 85) (v := .bool false) rfl (by simp) ?_
        refine WL_val rfl rfl rfl (R_move rfl rfl) ?_
        refine WL_do rfl rfl rfl (D_call (xcopy_nil ) rfl rfl rfl rfl (pqZ)) ?_
        rintro _ _ ⟨_, ⟨rfl, rfl⟩, rfl⟩
        refine WL_val rfl rfl rfl (R_ptrNeNil rfl Tryz.underlying33 rfl) ?_
        refine WL_set (s := 88) (v := .bool false) rfl (by rfl) ?_
        refine WL_val rfl rfl rfl (R_pickF rfl rfl rfl) ?_
        refine WL_nil ?_
        refine WQ_code ?_
        refine WC_F rfl ?_
        refine WC_skip ?_
        refine WQ_code ?_
        refine WC_region ?_
        refine WL_val rfl rfl rfl (R_add rfl rfl rfl (by omega)) ?_
        refine WL_val rfl rfl rfl (R_move rfl rfl) ?_
        refine WL_nil ?_
        refine WQ_nextF (1) (by omega) (by omega) leZ (psZ) rfl (pqZ)
      · refine WC_skip ?_
        refine WQ_code ?_
        refine WC_seq ?_
        refine WC_block ?_
        refine WC_seq ?_
        refine WC_region ?_
        refine WL_val rfl rfl rfl (R_indexAddrN rfl Tryz.underlying69 Tryz.sizeOf33 rfl rfl (by omega)) ?_
        refine WL_val rfl rfl rfl (R_load (v := ptrP b2) rfl sc33 rfl (mmZ) (rfl)) ?_
        refine WL_val rfl rfl rfl (R_assign rfl rfl) ?_
        refine WL_nil ?_
        refine WQ_code ?_
        refine WC_seq ?_
        refine WC_region ?_
        refine WL_val rfl rfl rfl (R_move rfl rfl) ?_
        refine WL_do rfl rfl rfl (D_call (xnext_zero b2 ) rfl rfl rfl rfl (pqZ)) ?_
        rintro _ _ ⟨_, ⟨rfl, rfl⟩, rfl⟩
        refine WL_val rfl rfl rfl (R_move rfl rfl) ?_
        refine WL_val rfl rfl rfl (R_extract rfl rfl rfl) ?_
        refine WL_val rfl rfl rfl (R_extract rfl rfl rfl) ?_
        refine WL_do rfl rfl rfl (D_alloc rfl zv63) ?_
        rintro _ _ ⟨b5, rfl, rfl⟩
        refine WL_do0 rfl rfl (D_store (vs := [_, _, _, _, _]) rfl Tryz.sizeOf63 rfl rfl rfl rfl rfl (plZ) (by exact Nat.le_of_ble_eq_true rfl)) ?_
        rintro _ _ rfl
        refine WL_val rfl rfl rfl (R_assign rfl rfl) ?_
        refine WL_set (s := 6) (v := .bool false) rfl (by rfl) ?_
        refine WL_nil ?_
        refine WQ_code ?_
        refine WC_seq ?_
        refine WC_region ?_
        refine WL_val rfl rfl rfl (R_move rfl rfl) ?_
        refine WL_val rfl rfl rfl (R_fieldAddr rfl fa43_1 rfl) ?_
        refine WL_val rfl rfl rfl (R_load rfl sc3 rfl (mmZ) rfl) ?_
        refine WL_val rfl rfl rfl (R_fieldAddr rfl fa43_2 rfl) ?_
        refine WL_val rfl rfl rfl (R_load rfl sc25 rfl (mmZ) rfl) ?_
        refine WL_val rfl rfl rfl (R_fieldAddr rfl fa43_3 rfl) ?_
        refine WL_val rfl rfl rfl (R_load rfl sc25 rfl (mmZ) rfl) ?_
        refine WL_val rfl rfl rfl (R_fieldAddr rfl fa43_4 rfl) ?_
        refine WL_val rfl rfl rfl (R_load rfl sc9 rfl (mmZ) rfl) ?_
        refine WL_do rfl rfl rfl (D_call (xbegin_zero b2 n now dl key) rfl rfl rfl rfl (pqZ)) ?_
        rintro _ _ ⟨_, ⟨rfl, rfl⟩, rfl⟩
        refine WL_val rfl rfl rfl (R_neq rfl rfl rfl) ?_
        refine WL_val rfl rfl rfl (R_move rfl rfl) ?_
        refine WL_set (s := 36) (v := .bool false) rfl (by simp) ?_
        refine WL_val rfl rfl rfl (R_move rfl rfl) ?_
        refine WL_val rfl rfl rfl (R_fieldAddr rfl fa43_1 rfl) ?_
        refine WL_val rfl rfl rfl (R_load rfl sc3 rfl (mmZ) rfl) ?_
        refine WL_val rfl rfl rfl (R_fieldAddr rfl fa43_5 rfl) ?_
        refine WL_val rfl rfl rfl (R_load rfl sc4 rfl (mmZ) rfl) ?_
        refine WL_val rfl rfl rfl (R_fieldAddr rfl fa43_2 rfl) ?_
        refine WL_val rfl rfl rfl (R_load rfl sc25 rfl (mmZ) rfl) ?_
        refine WL_do rfl rfl rfl (D_call (xdialed_zero b2 n good now) rfl rfl rfl rfl (pqZ)) ?_
        rintro _ _ ⟨_, ⟨rfl, rfl⟩, rfl⟩
        refine WL_val rfl rfl rfl (R_neq rfl rfl rfl) ?_
        refine WL_val rfl rfl rfl (R_pickF rfl rfl rfl) ?_
        refine WL_val rfl rfl rfl (R_move rfl rfl) ?_
        refine WL_set (s := 47) (v := .bool false) rfl (by simp) ?_
        refine WL_val rfl rfl rfl (R_move rfl rfl) ?_
        refine WL_val rfl rfl rfl (R_fieldAddr rfl fa43_1 rfl) ?_
        refine WL_val rfl rfl rfl (R_load rfl sc3 rfl (mmZ) rfl) ?_
        refine WL_val rfl rfl rfl (R_fieldAddr rfl fa43_5 rfl) ?_
        refine WL_val rfl rfl rfl (R_load rfl sc4 rfl (mmZ) rfl) ?_
        refine WL_val rfl rfl rfl (R_fieldAddr rfl fa43_2 rfl) ?_
        refine WL_val rfl rfl rfl (R_load rfl sc25 rfl (mmZ) rfl) ?_
        refine WL_do rfl rfl rfl (D_call (xend_zero b2 n good now) rfl rfl rfl rfl (pqZ)) ?_
        rintro _ _ ⟨_, ⟨rfl, rfl⟩, rfl⟩
        refine WL_val rfl rfl rfl (R_neq rfl rfl rfl) ?_
        refine WL_val rfl rfl rfl (R_pickF rfl rfl rfl) ?_
        refine WL_val rfl rfl rfl (R_move rfl rfl) ?_
        refine WL_set (s := 58) (v := .bool false) rfl (by simp) ?_
        refine WL_val rfl rfl rfl (R_move rfl rfl) ?_
        refine WL_val rfl rfl rfl (R_fieldAddr rfl fa43_2 rfl) ?_
        refine WL_val rfl rfl rfl (R_load rfl sc25 rfl (mmZ) rfl) ?_
        refine WL_do rfl rfl rfl (D_call (xadv_zero b2 now) rfl rfl rfl rfl (pqZ)) ?_
        rintro _ _ ⟨_, ⟨rfl, rfl⟩, rfl⟩
        refine WL_val rfl rfl rfl (R_neq rfl rfl rfl) ?_
        refine WL_val rfl rfl rfl (R_pickF rfl rfl rfl) ?_
        refine WL_val rfl rfl rfl (R_move rfl rfl) ?_
        refine WL_set (s := 65) (v := .bool false) rfl (by simp) ?_
        refine WL_val rfl rfl rfl (R_loadA (vs := [_, _, _, _, _]) rfl ag63 rfl (mmZ) rfl (atZ)) ?_
        refine WL_val rfl rfl rfl (R_build rfl zv63 pl63 rfl rfl) ?_
        refine WL_val rfl rfl rfl (R_sne63 rfl rfl rfl rfl) ?_
        refine WL_set (s := 68) (v := .bool false) rfl (by exact congrArg Value.bool (by simp)) ?_
        refine WL_val rfl rfl rfl (R_pickF rfl rfl rfl) ?_
        refine WL_val rfl rfl rfl (R_move rfl rfl) ?_
        refine WL_val rfl rfl rfl (R_move rfl rfl) ?_
        refine WL_val rfl rfl rfl (R_pickF rfl rfl rfl) ?_
        refine WL_val rfl rfl rfl (R_move rfl rfl) ?_
        refine WL_val rfl rfl rfl (R_move rfl rfl) ?_
        refine WL_val rfl rfl rfl (R_fieldAddr rfl fa43_1 rfl) ?_
        refine WL_val rfl rfl rfl (R_load rfl sc3 rfl (mmZ) rfl) ?_
        refine WL_do rfl rfl rfl (D_call (lisn_zero b2 n) rfl rfl rfl rfl (pqZ)) ?_
        rintro _ _ ⟨_, ⟨rfl, rfl⟩, rfl⟩
        refine WL_val rfl rfl rfl (R_not rfl rfl) ?_
        refine WL_val rfl rfl rfl (R_pickF rfl rfl rfl) ?_
        refine WL_val rfl rfl rfl (R_move rfl rfl) ?_
        refine WL_val rfl rfl rfl (R_move rfl rfl) ?_
        refine WL_do rfl rfl rfl (D_call (xdue_zero b2 ) rfl rfl rfl rfl (pqZ)) ?_
        rintro _ _ ⟨_, ⟨rfl, rfl⟩, rfl⟩
        refine WL_val rfl rfl rfl (R_neq rfl rfl rfl) ?_
        refine WL_val rfl rfl rfl (R_pickF rfl rfl rfl) ?_
        refine WL_val rfl rfl rfl (R_move rfl rfl) ?_
        refine WL_set (s := 85) (v := .bool false) rfl (by simp) ?_
        refine WL_val rfl rfl rfl (R_move rfl rfl) ?_
        refine WL_do rfl rfl rfl (D_call (xcopy_zero b2 ) rfl rfl rfl rfl (pqZ)) ?_
        rintro _ _ ⟨_, ⟨rfl, rfl⟩, rfl⟩
        refine WL_val rfl rfl rfl (R_ptrNeNil rfl Tryz.underlying33 rfl) ?_
        refine WL_set (s := 88) (v := .bool false) rfl (by rfl) ?_
        refine WL_val rfl rfl rfl (R_pickF rfl rfl rfl) ?_
        refine WL_nil ?_
        refine WQ_code ?_
        refine WC_F rfl ?_
        refine WC_skip ?_
        refine WQ_code ?_
        refine WC_region ?_
        refine WL_val rfl rfl rfl (R_add rfl rfl rfl (by omega)) ?_
        refine WL_val rfl rfl rfl (R_move rfl rfl) ?_
        refine WL_nil ?_
        refine WQ_nextF (2) (by omega) (by omega) leZ (psZ) rfl (pqZ)
    · refine WC_exit ?_
      refine WQ_code ?_
      refine WC_seq ?_
      refine WC_region ?_
      refine WL_do rfl rfl rfl (D_call (known_ok) rfl rfl rfl rfl (pqZ)) ?_
      rintro _ _ ⟨_, ⟨rfl, rfl⟩, rfl⟩
      refine WL_val rfl rfl rfl (R_assign rfl rfl) ?_
      refine WL_nil ?_
      refine WQ_code ?_
      refine WC_ret ?_
      refine WQ_ret rfl rfl (.cons (.tmp rfl) .nil) rfl (by
          exact ⟨rfl, rfl⟩) (pqZ)
end Go.Proofs.YtelmlkdibcdebaaGreat
end
