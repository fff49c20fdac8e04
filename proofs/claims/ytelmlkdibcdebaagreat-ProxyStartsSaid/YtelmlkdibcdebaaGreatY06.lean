/-
 Chapter 49 (proxy), part Starts: contracts of functions that the laws call, each for the heap it names.
-/
import Derived.Test.YtelmlkdibcdebaaGreatY05
import Derived.Test.YtelmlkdibcdebaaGreatRows
section
set_option linter.unusedVariables false
set_option maxRecDepth 20000
set_option maxHeartbeats 2000000
namespace Go.Proofs.YtelmlkdibcdebaaGreat
theorem WQ_shape {X : Ctx} {K : Act → World → Prop} {E : Env} {H A A' F : Heap} (q : Pulls A H F) (hp : A.Perm A') (h : WQ X K E (A' ++ F)) : WQ X K E H := fun a w ha hw => h a w ha (hw.perm (q.perm.trans (hp.append_right F)))
def dueK (S : List Ss) (ys : List Int) : Nat := ys.foldl (fun a k => if (sesK S k).st = 1 then min a (sesK S k).til else a) 18446744073709551615
def dueV (S : List Ss) : Nat := S.foldl (fun a s => if s.st = 1 then min a s.til else a) 18446744073709551615
theorem dueK_snoc (S : List Ss) (ys : List Int) (k : Int) : dueK S (ys ++ [k]) = if (sesK S k).st = 1 then min (dueK S ys) (sesK S k).til else dueK S ys := by unfold dueK; rw [List.foldl_append]; rfl
theorem dueK_perm {S : List Ss} (hn : (S.map (·.num)).Nodup) {ys : List Int} (h : ys.Perm ((sesM S).map (·.1))) : dueK S ys = dueV S := by
 have h1 : dueK S ys = dueK S (S.map (·.num)) := by
  rw [sesM_keys] at h
  exact h.foldl_eq' (fun x _ y _ z => by (repeat' split) <;> omega) _
 rw [h1]
 unfold dueK dueV
 rw [List.foldl_map]
 have key : ∀ (L : List Ss) (a : Nat), (∀ s ∈ L, s ∈ S) → L.foldl (fun a s => if (sesK S s.num).st = 1 then min a (sesK S s.num).til else a) a = L.foldl (fun a s => if s.st = 1 then min a s.til else a) a := by
  intro L
  induction L with
  | nil => intro a _; rfl
  | cons s r ih =>
   intro a hL
   rw [List.foldl_cons, List.foldl_cons, sesK_at hn (hL s (List.mem_cons_self ..))]
   exact ih _ fun q hq => hL q (List.mem_cons_of_mem _ hq)
 exact key S _ fun s hs => hs
theorem xdue_ok {N : Nat} {m : XM} {x : PX} (h : PXIs N m x) (hn : (x.S.map (·.num)).Nodup) : Spec Tryz.prog 22 [ptrP m.p] ([pxE m x, pxM m] ++ ssH x.S) (fun r H' => r = .int .u64 (dueV x.S : Int) ∧ H' = [pxE m x, pxM m] ++ ssH x.S) := by
 have hM := h.mp
 refine Spec.of (E := [(0, ptrP m.p)]) Tryz.func22 rfl (by kernel_rfl) Tryz.ntmps22 rfl rfl (fun w => ?_)
 refine WC_seq (WC_region (WLa rfl (WL_nil (WQ_code (WC_seq (WC_region (WLa rfl (WL_nil (WQ_code (WC_seq (WC_seq (WC_region (WLa rfl ?_)))))))))))))
 refine WL_val rfl rfl rfl (R_ptrEqNil rfl Tryz.underlying33 rfl) ?_
 refine WL_nil (WQ_code ?_)
 refine WC_F rfl ?_
 refine WC_skip (WQ_code (WC_seq (WC_seq (WC_region (WLa rfl (WLa rfl ?_))))))
 refine WL_val rfl rfl rfl (R_fieldAddr rfl fa68_4 rfl) ?_
 refine WL_val rfl rfl rfl (R_load rfl sc66 rfl (mmD) rfl) ?_
 refine WL_do rfl rfl rfl (D_rangeMap rfl Tryz.underlying66 rfl mmD) ?_
 rintro _ _ ⟨bi, rfl, rfl⟩
 refine WL_nil (WQ_code (WC_block ?_))
 refine WC_loopF (G := KyG Int) [3, 5, 14, 15, 16, 17, 18, 19, 20, 21, 22, 23, 24, 25, 26, 27, 28] (fun y => KsG ekW (sesM x.S) m.ses y.seen y.ys) (fun y => [(3, .int .u64 (dueK x.S y.ys : Int))]) (fun y => [⟨some bi, .mapIter (some m.sb) m.smc y.seen m.smc⟩]) (fun y => (sesM x.S).length - y.ys.length) (⟨#[], [], []⟩) (KsG.new ekW (sesM x.S) m.ses) leZ (pqD) ?_
 rintro y hks
 refine WC_seq (WC_region ?_)
 refine WL_do rfl rfl rfl (D_nextMap rfl rfl plD mmD hM.born) ?_
 rintro _ _ (⟨rfl, rfl, hall⟩ | ⟨e, he, hns, rfl, rfl⟩)
 ·refine WLa rfl ?_
  refine WL_set (s := 15) (v := .bool false) rfl (by rfl) ?_
  refine WL_nil (WQ_code (WC_seq ?_))
  refine WC_F rfl ?_
  refine WC_exit (WQ_code (WC_seq (WC_region (WLa rfl (WLa rfl (WL_nil (WQ_code (WC_ret ?_))))))))
  rw [dueK_perm hn (hks.done hM hall)]
  refine WQ_ret rfl rfl (.cons (.tmp rfl) .nil) rfl (by
    exact ⟨rfl, rfl⟩) (pqD)
 ·refine WLa rfl ?_
  refine WL_set (s := 15) (v := .bool true) rfl (by rfl) ?_
  refine WL_nil (WQ_code (WC_seq ?_))
  refine WC_T rfl ?_
  refine WC_skip (WQ_code (WC_block (WC_seq (WC_region ?_))))
  obtain ⟨⟨k, v9⟩, hx, hek, hev⟩ := hM.back he
  dsimp only at hek hev
  obtain ⟨hmay, hks2⟩ := hks.next ekW_inj hM he hns hek
  obtain ⟨s, hs, hsx⟩ := List.mem_map.1 hx
  obtain ⟨rfl, rfl⟩ := Prod.mk.inj hsx
  obtain ⟨A, B, hS⟩ := List.append_of_mem hs
  have hsk := sesK_at hn hs
  refine WL_val rfl rfl rfl (R_entryMap rfl rfl mmD mmD he hM.bnd) ?_
  rw [hek, hev]
  refine WLa rfl (WLa rfl (WL_nil (WQ_code (WC_seq (WC_region (WLa rfl ?_))))))
  have hpm9 : (ssH x.S).Perm (seE s :: ssH (A ++ B)) := by rw [hS]; exact ssH_split A B s
  refine WL_shape (A := ssH x.S) pqD hpm9 ?_
  refine WLa rfl ?_
  refine WL_val rfl rfl rfl (R_fieldAddr rfl fa90_4 rfl) ?_
  refine WL_val rfl rfl rfl (R_load rfl sc49 rfl (mmD) rfl) ?_
  refine WL_val rfl rfl rfl (R_eql rfl rfl rfl) ?_
  refine WL_nil (WQ_code ?_)
  refine WC_dec rfl (fun c1 => ?_) (fun c1 => ?_)
  ·have hc9 : s.st = 1 := c1
   refine WC_region (WLa rfl (WLa rfl (WLa rfl ?_)))
   refine WL_val rfl rfl rfl (R_fieldAddr rfl fa90_5 rfl) ?_
   refine WL_val rfl rfl rfl (R_load rfl sc25 rfl (mmD) rfl) ?_
   refine WL_val rfl rfl rfl (R_min rfl rfl rfl) ?_
   refine WL_set (s := 28) (v := .int .u64 ((dueK x.S (y.ys ++ [s.num]) : Nat) : Int)) rfl (by exact congrArg (Value.int .u64) (by rw [dueK_snoc, hsk, if_pos hc9]; omega)) ?_
   refine WLa rfl (WL_nil ?_)
   refine WQ_shape (A := seE s :: ssH (A ++ B)) pqD hpm9.symm ?_
   refine WQ_nextF (gg := y) (⟨y.seen.push e.born, y.ys ++ [s.num], []⟩) (hks2) (by have := hks2.len; rw [List.length_append, List.length_singleton] at this; dsimp only; rw [List.length_append, List.length_singleton]; omega) leZ (psZ) rfl (pqD)
  ·have hc9 : ¬ s.st = 1 := c1
   refine WC_set (s := 3) (v := .int .u64 ((dueK x.S (y.ys ++ [s.num]) : Nat) : Int)) rfl (by rw [dueK_snoc, hsk, if_neg hc9]) ?_
   refine WC_skip ?_
   refine WQ_shape (A := seE s :: ssH (A ++ B)) pqD hpm9.symm ?_
   refine WQ_nextF (gg := y) (⟨y.seen.push e.born, y.ys ++ [s.num], []⟩) (hks2) (by have := hks2.len; rw [List.length_append, List.length_singleton] at this; dsimp only; rw [List.length_append, List.length_singleton]; omega) leZ (psZ) rfl (pqD)
theorem xdue_all {N : Nat} {m : XM} {x : PX} (h : PXIs N m x) (hn : (x.S.map (·.num)).Nodup) : Spec Tryz.prog 22 [ptrP m.p] (pxH m x) (fun r H' => r = .int .u64 (dueV x.S : Int) ∧ H' = pxH m x) := by
 have hp : (pxH m x).Perm (([pxE m x, pxM m] ++ ssH x.S) ++ ([pxV m x, pxQ m] ++ (balH m.bm ++ poolsH m.pm x.P))) := by
  refine List.Perm.cons _ (List.Perm.cons _ ?_)
  show ([pxV m x, pxQ m] ++ (ssH x.S ++ (balH m.bm ++ poolsH m.pm x.P))).Perm (ssH x.S ++ ([pxV m x, pxQ m] ++ (balH m.bm ++ poolsH m.pm x.P)))
  exact List.perm_append_comm_assoc _ _ _
 refine Spec.re ((((xdue_ok h hn).fr _).perm hp).mono ?_)
 rintro r H' ⟨H1, ⟨hr, rfl⟩, rfl⟩
 exact ⟨pxH m x, hp.symm, hr, rfl⟩
end Go.Proofs.YtelmlkdibcdebaaGreat
end
section
set_option linter.unusedVariables false
set_option maxRecDepth 20000
set_option maxHeartbeats 1000000
namespace Go.Proofs.YtelmlkdibcdebaaGreat
theorem sum_set {f : PS → Nat} : ∀ {P : List PS} {i : Nat} {si : PS} (s' : PS), P[i]? = some si → ((P.set i s').map f).sum + f si = (P.map f).sum + f s'
 | [], _, _, _, h => by simp at h
 | a :: r, 0, si, s', h => by
  simp at h; subst h
  simp only [List.set_cons_zero, List.map_cons, List.sum_cons]; omega
 | a :: r, i + 1, si, s', h => by
  have ih := sum_set (f := f) (P := r) (i := i) (si := si) s' (by simpa using h)
  simp only [List.set_cons_succ, List.map_cons, List.sum_cons]; omega
abbrev lat (S : List Ss) : Nat := S.countP (fun s => decide (s.st = 1))
def wP (P : List PS) : Nat := (P.map wt).sum
theorem wP_at : ∀ {P : List PS} {i : Nat} {si : PS}, P[i]? = some si → wt si ≤ wP P
 | [], _, _, h => by simp at h
 | a :: r, 0, si, h => by simp at h; subst h; simp [wP]
 | a :: r, i + 1, si, h => by
  have ih := wP_at (P := r) (i := i) (si := si) (by simpa using h)
  unfold wP at ih ⊢
  rw [List.map_cons, List.sum_cons]; omega
theorem lat_mid (A B : List Ss) (s : Ss) : lat (A ++ s :: B) = lat (A ++ B) + (if s.st = 1 then 1 else 0) := by
 unfold lat
 rw [List.countP_append, List.countP_append, List.countP_cons]
 by_cases h : s.st = 1
 ·rw [if_pos (decide_eq_true h), if_pos h]; omega
 ·rw [if_neg (by simpa using h), if_neg h]; omega
def wX (x : PX) : Nat := wP x.P + lat x.S
theorem dialed_lost_w {s : PS} (h : PH s) (c : Int) (now : Nat) : wt (s.dialed c false now) ≤ wt s := by
 by_cases he : s.inE c 1 now = 0
 ·obtain ⟨k, x, rfl, _, hx, hst, _⟩ := inE_zero he
  rw [dialed_lost he]
  have r := (lose_R (h.at_ now) hx (by rw [hst]; decide)).w
  have h9 : wt (s.at_ now) = wt s := rfl
  omega
 ·rw [dialed_no he]; exact Nat.le_refl _
theorem dialed_w {s : PS} (h : PH s) (c : Int) (made : Bool) (now : Nat) : wt (s.dialed c made now) ≤ wt s + 1 := by
 by_cases he : s.inE c 1 now = 0
 ·obtain ⟨k, _, _, _, r⟩ := dialed_R h he made; exact r.w
 ·rw [dialed_no he]; exact Nat.le_succ _
theorem put_w {s : PS} (h : PH s) (c : Int) (good : Bool) (now : Nat) : wt (s.put c good now) ≤ wt s + 1 := by
 by_cases he : s.inE c 2 now = 0
 ·obtain ⟨k, _, _, _, r⟩ := put_R h he good; exact r.w
 ·rw [put_no he]; exact Nat.le_succ _
theorem adv_w {s : PS} (h : PH s) (now : Nat) : wt (s.advance now) ≤ wt s := by
 by_cases hm : s.may true now = 0
 ·rw [adv_ok hm]
  have r1 : AdR (s.at_ now) (s.adv1 now) := tmos_R (s.late now) (h.at_ now)
  have r2 := shuts_R ((s.adv1 now).old now) r1.ph (old_nodup _ _) fun a ha => (old_mem ha).1
  have := (r1.trans r2).w
  have h9 : wt (s.at_ now) = wt s := rfl
  omega
 ·rw [adv_no hm]; exact Nat.le_refl _
theorem get_w {s : PS} (h : PH s) (who : Int) (now dl : Nat) : wt (s.getS who now dl) ≤ wt s + 1 := by
 by_cases he : getE_ s who now dl = 0
 ·exact (get_ev h he).2.1
 ·rw [(get_err he).1]; exact Nat.le_succ _
theorem adv_E {s : PS} (h : PH s) (now : Nat) : (s.advance now).E.length ≤ s.E.length + wt s := by
 by_cases hm : s.may true now = 0
 ·rw [adv_ok hm]
  have a1 := shuts_E ((s.adv1 now).old now) (s.adv1 now)
  have a2 := (tmo_rest (s.late now) (s.at_ now)).2.2.2.1
  have a3 := (late_perm s now).length_eq
  have a4 := List.length_filter_le (fun x : Qp => decide (x.dl ≤ now)) s.Q
  have a5 := old_len (s.adv1 now) now
  have a6 : (s.adv1 now).C = s.C := (tmo_rest (s.late now) (s.at_ now)).1
  have a7 : (s.adv1 now).E.length = s.E.length + (s.late now).length := a2
  have a8 : (allI 3 (s.adv1 now).C).length = cn 3 s.C := by rw [a6]; exact allF_cn 3 s.C 0
  unfold wt
  omega
 ·rw [adv_no hm]; exact Nat.le_add_right _ _
theorem lose_E (s : PS) (c : Nat) : (s.lose c).E.length ≤ s.E.length + 1 := next_E (s.set c ⟨0, 0, 0⟩)
theorem dialed_E (s : PS) (c : Int) (made : Bool) (now : Nat) : (s.dialed c made now).E.length ≤ s.E.length + 1 := by
 unfold PS.dialed
 split
 ·omega
 ·split
  ·exact Nat.le_succ _
  ·exact lose_E (s.at_ now) _
theorem put_E (s : PS) (c : Int) (good : Bool) (now : Nat) : (s.put c good now).E.length ≤ s.E.length + 2 := by
 by_cases h : s.inE c 2 now = 0
 ·obtain ⟨k, x, rfl, _⟩ := inE_zero h
  have h5 : (((s.at_ now).tell 5 (-1) (k : Int)).lose k).E.length ≤ s.E.length + 2 := by
   have := lose_E ((s.at_ now).tell 5 (-1) (k : Int)) k
   have h6 : ((s.at_ now).tell 5 (-1) (k : Int)).E.length = s.E.length + 1 := by show (s.E ++ [_]).length = _; rw [List.length_append]; rfl
   omega
  cases good with
  | false => rw [put_bad h]; exact h5
  | true =>
   cases hQ : s.Q with
   | cons a r => rw [put_use h hQ]; show (s.E ++ [_]).length ≤ _; rw [List.length_append, List.length_singleton]; omega
   | nil =>
    by_cases hl : (allI 3 s.C).length < s.most
    ·rw [put_idle h hQ hl]; show s.E.length ≤ _; omega
    ·rw [put_over h hQ hl]; exact h5
 ·rw [put_no h]; omega
theorem evS_le {x : PX} (h : PXG x) {b : Nat} (hB : PXB b x) (now : Nat) : evS now x.P ≤ wP x.P := by
 have key : ∀ (L : List PS), (∀ s ∈ L, PH s ∧ s.E = []) → evS now L ≤ wP L := by
  intro L
  induction L with
  | nil => intro _; exact Nat.le_refl _
  | cons s r ih =>
   intro hL
   obtain ⟨h1, h2⟩ := hL s (List.mem_cons_self ..)
   have a := adv_E h1 now
   rw [h2, List.length_nil] at a
   have b := ih fun q hq => hL q (List.mem_cons_of_mem _ hq)
   unfold evS wP at b ⊢
   rw [List.map_cons, List.sum_cons, List.map_cons, List.sum_cons]
   unfold evA at b ⊢
   omega
 refine key x.P fun s hs => ?_
 obtain ⟨j, hj⟩ := List.mem_iff_getElem?.1 hs
 exact ⟨(h.po j s hj).ph, (hB s hs).1⟩
theorem drainL_lat (i : Nat) : ∀ (n : Nat) (x : PX), PXG x → lat (PX.drainL i n x).S ≤ lat x.S
 | 0, _, _ => Nat.le_refl _
 | n + 1, x, h => by
  unfold PX.drainL
  split
  ·exact Nat.le_refl _
  ·rename_i si hi
   split
   ·exact Nat.le_refl _
   ·rename_i e r hE
    obtain ⟨hk, g2⟩ := drE_ok h hi hE
    refine Nat.le_trans (drainL_lat i n _ g2) ?_
    rcases hk with hk | ⟨hk, A, s9, B, hS, hw, hst9, _⟩
    ·rw [drE_5 hk]; exact Nat.le_refl _
    ·have h0 : lat x.S = lat (A ++ B) := by rw [hS, lat_mid, if_neg (by rw [hst9]; decide)]; rfl
     rcases hk with hk | hk | hk
     ·rw [drE_1 (x := x.nxP i si) h.nd hS hw.symm hk, h0]
      show lat (A ++ _ :: B) ≤ _
      rw [lat_mid, if_neg (by show ¬ (4 : Int) = 1; decide)]; exact Nat.le_refl _
     ·rw [drE_2 (x := x.nxP i si) h.nd hS hw.symm hk, h0]
      show lat (A ++ _ :: B) ≤ _
      rw [lat_mid, if_neg (by show ¬ (3 : Int) = 1; decide)]; exact Nat.le_refl _
     ·rw [drE_4 (x := x.nxP i si) h.nd hS hw.symm hk, h0]; exact Nat.le_refl _
theorem drain_lat {x : PX} (h : PXG x) (i : Nat) : lat (x.drain i).S ≤ lat x.S := by obtain ⟨n, e⟩ := drain_eqL x i; rw [e]; exact drainL_lat i n x h
theorem drain_wP {x : PX} {i : Nat} {si : PS} (hi : x.P[i]? = some si) : wP (x.drain i).P = wP x.P := by
 rw [drain_dry hi]
 have := sum_set (f := wt) { si with E := [] } hi
 have h9 : wt { si with E := [] } = wt si := rfl
 unfold wP
 omega
theorem drain_B {x : PX} {b : Nat} {i : Nat} {si : PS} (hi : x.P[i]? = some si) (hB : ∀ (j : Nat) (sj : PS), x.P[j]? = some sj → (j ≠ i → sj.E = []) ∧ sj.n ≤ b) : PXB b (x.drain i) := fun s hs => by
 rw [drain_dry hi] at hs
 obtain ⟨j, hj⟩ := List.mem_iff_getElem?.1 hs
 by_cases e : i = j
 ·subst e
  rw [List.getElem?_set_self (List.getElem?_eq_some_iff.1 hi).1] at hj
  rw [← Option.some.inj hj]
  exact ⟨rfl, (hB i si hi).2⟩
 ·rw [List.getElem?_set_ne e] at hj
  exact ⟨(hB j s hj).1 (fun q => e q.symm), (hB j s hj).2⟩
theorem lat_fldF {x : PX} (hn : (x.S.map (·.num)).Nodup) {A B : List Ss} {s : Ss} (hS : x.S = A ++ s :: B) : lat (x.fldF s).S ≤ lat (A ++ B) + 1 := by
 rw [fldF_eq hS hn]
 split
 ·show lat (A ++ _ :: B) ≤ _
  rw [lat_mid, if_pos (show (x.later s).st = 1 from rfl)]; exact Nat.le_refl _
 ·exact Nat.le_succ _
theorem attF_w {x : PX} (h : PXG x) {A B : List Ss} {s : Ss} (hS : x.S = A ++ s :: B) : wX (x.attF s) ≤ wP x.P + lat (A ++ B) + 1 := by
 unfold PX.attF
 by_cases hc : x.b.cand x.now = []
 ·rw [if_pos hc]
  have := lat_fldF h.nd hS
  unfold wX
  rw [(fldF_rest (x := x) s).1]; omega
 ·rw [if_neg hc]
  cases hsi : x.P[x.pk s]? with
  | none =>
   unfold wX; rw [hS, lat_mid]; dsimp only
   split <;> omega
  | some si =>
   dsimp only
   obtain ⟨p1, _⟩ := attX_fields x s si
   have h1 := sum_set (f := wt) (si.getS s.num x.now s.dl) hsi
   have h2 := get_w (h.po _ si hsi).ph s.num x.now s.dl
   have h9 : ¬ (x.attS s si).st = 1 := by
    by_cases k1 : (x.pv s si).k = 1
    ·rw [(attX_1 k1).2]; show ¬ (4 : Int) = 1; decide
    ·by_cases k2 : (x.pv s si).k = 2
     ·rw [(attX_2 k1 k2).2]; show ¬ (3 : Int) = 1; decide
     ·rw [(attX_3 k1 k2).2]; show ¬ (2 : Int) = 1; decide
   have h3 : lat (updS x.S s.num fun _ => x.attS s si) = lat (A ++ B) := by
    rw [updS_at hS h.nd, lat_mid, if_neg h9]; rfl
   show wP (x.attX s si).P + lat (updS x.S s.num fun _ => x.attS s si) ≤ _
   rw [h3, p1]
   unfold wP
   omega
theorem dueF_w {x : PX} (h : PXG x) (now : Nat) {A B : List Ss} {s : Ss} (hS : x.S = A ++ s :: B) (hst : s.st = 1) : wX (x.dueF now s) ≤ wX x := by
 have h0 : wX x = wP x.P + lat (A ++ B) + 1 := by unfold wX; rw [hS, lat_mid, if_pos hst]; omega
 unfold PX.dueF
 split
 ·rw [filt_num hS h.nd, h0]
  show wP x.P + lat (A ++ B) ≤ _; omega
 ·rw [h0]; exact attF_w h hS
structure PXO (w b e : Nat) (x : PX) : Prop where
 g : PXG x
 w : wX x ≤ w
 b : PXB b x
 e : x.E.length ≤ e
 tr : x.pl.tries ≤ 100
theorem PXO.le {w b e w2 b2 e2 : Nat} {x : PX} (h : PXO w b e x) (h1 : w ≤ w2) (h2 : b ≤ b2) (h3 : e ≤ e2) : PXO w2 b2 e2 x := ⟨h.g, Nat.le_trans h.w h1, fun s hs => ⟨(h.b s hs).1, Nat.le_trans (h.b s hs).2 h2⟩, Nat.le_trans h.e h3, h.tr⟩
theorem PXO.nx {w b e : Nat} {x : PX} (h : PXO w b e x) : PXO w b e x.nx := ⟨⟨h.g.bl, h.g.nd, h.g.ks, h.g.bk, h.g.po⟩, h.w, h.b, by show (x.E.drop 1).length ≤ e; rw [List.length_drop]; have := h.e; omega, h.tr⟩
theorem PXO.cnt {w b e : Nat} {x : PX} (h : PXO w b e x) : ∀ si ∈ x.P, 3 * si.cnt 3 ≤ w := fun si hs => by
 obtain ⟨j, hj⟩ := List.mem_iff_getElem?.1 hs
 have h1 := wP_at hj
 have h2 := h.w
 unfold wX at h2
 rw [cnt_cn]
 unfold wt at h1
 omega
theorem PXG.beg0 {x : PX} (h : PXG x) {n : Int} {now dl : Nat} {key : ByteArray} (p : Nat) (hk : key.size ≤ 64) (hn : x.now ≤ now) (hno : n ∉ x.S.map (·.num)) : PXG (x.beg0 n now dl key p) := by
 refine ⟨Nat.le_trans h.bl hn, ?_, fun s hs => ?_, fun s hs he => ?_, fun i si hi => ?_⟩
 ·show ((x.S ++ [newS n dl key p]).map (·.num)).Nodup
  rw [List.map_append, List.nodup_append]
  exact ⟨h.nd, by simp, fun a ha b hb => by simp at hb; rw [hb]; rintro rfl; exact hno ha⟩
 ·rcases List.mem_append.1 hs with hs | hs
  ·exact h.ks s hs
  ·rw [List.mem_singleton.1 hs]; exact ⟨hk, Nat.zero_le _⟩
 ·rcases List.mem_append.1 hs with hs | hs
  ·exact h.bk s hs he
  ·rw [List.mem_singleton.1 hs] at he
   have he : (0 : Int) = 2 ∨ (0 : Int) = 3 ∨ (0 : Int) = 4 := he
   omega
 ·have hp := (h.po i si hi).later hn
  exact ⟨hp.ph, hp.nw, hp.nd, hp.ks, fun w hw => by
   obtain ⟨y, hy, r⟩ := hp.wt w hw
   exact ⟨y, List.mem_append_left _ hy, r⟩, fun c y hy hs => by
   rcases hp.dl c y hy hs with ⟨z, hz, r⟩ | q
   ·exact .inl ⟨z, List.mem_append_left _ hz, r⟩
   ·exact .inr q⟩
theorem PXO.begin {w b e : Nat} {x : PX} (h : PXO w b e x) {n : Int} {now dl : Nat} {key : ByteArray} (p : Nat) (he : x.begE n now dl key = 0) : PXO (w + 1) (b + 1) (e + 1) (x.begin n now dl key p) := by
 obtain ⟨hr, hk, hn1, hn2, hd, hno, hm⟩ := begE_zero he
 have g0 := h.g.beg0 (dl := dl) p hk hn1 hno
 have hS : (x.beg0 n now dl key p).S = x.S ++ newS n dl key p :: [] := rfl
 have hB : PXB b (x.beg0 n now dl key p) := h.b
 obtain ⟨r1, r2, r3, r4, r5⟩ := attF_rest g0 (newS n dl key p) hB
 have hw := attF_w g0 hS
 refine ⟨g0.attF hS (by show (0 : Int) ≠ 2; decide) (by show (0 : Int) ≠ 3; decide) h.tr, ?_, r4, ?_, by rw [show (x.begin n now dl key p).pl = _ from r2]; exact h.tr⟩
 ·have := h.w
  unfold wX at this
  rw [List.append_nil] at hw
  have hw : wX (x.begin n now dl key p) ≤ wP x.P + lat x.S + 1 := hw
  omega
 ·have := h.e
  have r3 : (x.begin n now dl key p).E.length ≤ x.E.length + 1 := r3
  omega
end Go.Proofs.YtelmlkdibcdebaaGreat
end
section
set_option linter.unusedVariables false
set_option maxRecDepth 20000
set_option maxHeartbeats 1000000
namespace Go.Proofs.YtelmlkdibcdebaaGreat
theorem NoDial.dialed {x : PX} (h : PXG x) {s : Ss} (hs : s ∈ x.S) (hst : s.st = 3) {i : Nat} {si : PS} (hbe : s.be = (i : Int)) (hi : x.P[i]? = some si) {now : Nat} (hn : x.now ≤ now) (hnw : now ≠ 18446744073709551615) : NoDial s.num (x.dial1 s false now i si) := by
 have hil := (List.getElem?_eq_some_iff.1 hi).1
 -- who dials for s, does so by its own connection
 have own : ∀ (j : Nat) (sj : PS), x.P[j]? = some sj → ∀ (c : Nat) (y : Cn), sj.C[c]? = some y → y.st = 1 → y.who = s.num → j = i ∧ s.cn = (c : Int) := fun j sj hj c y hy h1 hw => by
  rcases (h.po j sj hj).dl c y hy h1 with ⟨z, hz, e1, e2, e3, e4⟩ | e
  ·have : z = s := uniq_num h.nd hz hs (e1.trans hw)
   subst this
   rw [hbe] at e3
   exact ⟨by omega, e4⟩
  ·exact absurd (by rw [← hw]; exact ev_pend e) (h.noPend hs (by rw [hst]; decide) hj)
 refine fun j sj hj y hy h1 hw => ?_
 obtain ⟨c, hc⟩ := List.mem_iff_getElem?.1 hy
 have hj : (x.P.set i (si.dialed s.cn false now))[j]? = some sj := hj
 by_cases e : i = j
 ·subst e
  rw [List.getElem?_set_self hil] at hj
  rw [← Option.some.inj hj] at hc
  have hp := h.po i si hi
  rcases (opd_dialed si s.cn false now).dl c y hc h1 with q | q
  ·obtain ⟨_, hcn⟩ := own i si hi c y q h1 hw
   have hcl := (List.getElem?_eq_some_iff.1 q).1
   rw [hp.ph.len] at hcl
   have hin : si.inE s.cn 1 now = 0 := by
    have hpn := hp.nw
    refine inE_ok (may_fine (decide_eq_true (by omega)) (by omega)) ?_
    rw [hcn, Int.toNat_natCast, q]
    rintro (e9 | e9)
    ·omega
    ·exact e9 (by rw [Option.map_some, h1])
   rw [hcn] at hin hc
   rw [dialed_lost hin] at hc
   have hset : ((si.at_ now).set c ⟨0, 0, 0⟩).C[c]? = some ⟨0, 0, 0⟩ := List.getElem?_set_self (by show c < si.C.length; rw [hp.ph.len]; exact hcl)
   rcases (opd_next ((si.at_ now).set c ⟨0, 0, 0⟩)).dl c y hc h1 with q2 | q2
   ·rw [hset] at q2
    rw [← Option.some.inj q2] at h1
    exact absurd h1 (by decide)
   · -- it was told of: who waits
    have q3 := ev_pend q2
    have q4 := ((opd_next ((si.at_ now).set c ⟨0, 0, 0⟩)).pend).mem_iff.1 q3
    rw [hw] at q4
    exact h.noPend hs (by rw [hst]; decide) hi q4
  ·have q3 := (opd_dialed si s.cn false now).pend.mem_iff.1 (ev_pend q)
   rw [hw] at q3
   exact h.noPend hs (by rw [hst]; decide) hi q3
 ·rw [List.getElem?_set_ne e] at hj
  obtain ⟨q, _⟩ := own j sj hj c y hc h1 hw
  exact e q.symm
theorem dial1_B {x : PX} {b : Nat} (hB : PXB b x) (h : PXG x) {s : Ss} {good : Bool} {now i : Nat} {si : PS} (hi : x.P[i]? = some si) : ∀ (j : Nat) (sj : PS), (x.dial1 s good now i si).P[j]? = some sj → (j ≠ i → sj.E = []) ∧ sj.n ≤ b + 1 := fun j sj hj => by
 have hj : (x.P.set i (si.dialed s.cn good now))[j]? = some sj := hj
 by_cases e : i = j
 ·subst e
  rw [List.getElem?_set_self (List.getElem?_eq_some_iff.1 hi).1] at hj
  refine ⟨fun q => absurd rfl q, ?_⟩
  rw [← Option.some.inj hj]
  have h1 := (hB si (List.mem_of_getElem? hi)).2
  by_cases he : si.inE s.cn 1 now = 0
  ·obtain ⟨k, _, _, _, r⟩ := dialed_R (h.po i si hi).ph he good
   have := r.n; omega
  ·rw [dialed_no he]; omega
 ·rw [List.getElem?_set_ne e] at hj
  have := hB sj (List.mem_of_getElem? hj)
  exact ⟨fun _ => this.1, by omega⟩
theorem PXO.dialed {w b e : Nat} {x : PX} (h : PXO w b e x) {A B : List Ss} {s : Ss} (hS : x.S = A ++ s :: B) (hst : s.st = 3) (good : Bool) {now : Nat} (hn : x.now ≤ now) (hnw : now ≠ 18446744073709551615) : PXO (w + 1) (b + 1) (e + 3) (x.dialN s good now) := by
 have hs : s ∈ x.S := by rw [hS]; exact List.mem_append_right _ (List.mem_cons_self ..)
 obtain ⟨i, hbe, hil⟩ := h.g.bk s hs (.inr (.inl hst))
 obtain ⟨si, hi⟩ := getE (T := x.P) (i := i) hil
 have hph := (h.g.po i si hi).ph
 have hsE := (h.b si (List.mem_of_getElem? hi)).1
 have g1 := h.g.dial1 s good hi hn
 have hB1 := dial1_B (s := s) (good := good) (now := now) h.b h.g hi
 have hi1 : (x.dial1 s good now i si).P[i]? = some (si.dialed s.cn good now) := List.getElem?_set_self hil
 have hdE := dialed_E si s.cn good now
 rw [hsE, List.length_nil] at hdE
 have hw1 := sum_set (f := wt) (si.dialed s.cn good now) hi
 have hl0 : lat x.S = lat (A ++ B) := by rw [hS, lat_mid, if_neg (by rw [hst]; decide)]; rfl
 have hw0 := h.w
 unfold wX wP at hw0
 have he0 := h.e
 rw [dialN_eq hbe hi]
 cases good with
 | true =>
  rw [if_pos rfl, updS_at hS h.g.nd]
  have hC0 : si.dialed s.cn true now = { si.dialed s.cn true now with E := [] } := by
   have : (si.dialed s.cn true now).E = [] := by
    unfold PS.dialed
    split
    ·exact hsE
    ·rw [if_pos rfl]; exact hsE
   rw [← this]
  refine ⟨?_, ?_, ?_, ?_, h.tr⟩
  ·refine g1.swap (s' := { s with st := 4 }) hS rfl rfl (h.g.ks s hs) (fun _ => ⟨i, hbe, by rw [show (x.dial1 s true now i si).P.length = _ from List.length_set ..]; exact hil⟩) g1.bl rfl fun j sj hj => ?_
   have hj : (x.dial1 s true now i si).P[j]? = some sj := hj
   refine (g1.po j sj hj).chg (n := s.num) (by show OnlyAt s.num x.S _; rw [hS]; exact onlyAt_swap _) (g1.noPend (x := x.dial1 s true now i si) hs (by rw [hst]; decide) hj) fun c y hy h1 hw => ?_
   exfalso
   rcases (g1.po j sj hj).dl c y hy h1 with ⟨z, hz, e1, e2, e3, e4⟩ | q
   ·have : z = s := uniq_num h.g.nd hz hs (e1.trans hw)
    subst this
    rw [hbe] at e3
    obtain rfl : i = j := by omega
    rw [hi1] at hj
    have hj := Option.some.inj hj
    rw [← hj] at hy
    rcases (opd_dialed si z.cn true now).dl c y hy h1 with q | q
    ·have hp := h.g.po i si hi
     have hcl := (List.getElem?_eq_some_iff.1 q).1
     rw [hp.ph.len] at hcl
     have hpn := hp.nw
     have hin : si.inE z.cn 1 now = 0 := by
      refine inE_ok (may_fine (decide_eq_true (by omega)) (by omega)) ?_
      rw [e4, Int.toNat_natCast, q]
      rintro (e9 | e9)
      ·omega
      ·exact e9 (by rw [Option.map_some, h1])
     rw [e4] at hin hy
     rw [dialed_made hin] at hy
     have hset : ((si.at_ now).set c ⟨2, 0, 0⟩).C[c]? = some ⟨2, 0, 0⟩ := List.getElem?_set_self (by show c < si.C.length; rw [hp.ph.len]; exact hcl)
     rw [hset] at hy
     rw [← Option.some.inj hy] at h1
     exact absurd h1 (by decide)
    ·rw [hC0] at q; cases q
   ·exact absurd (by rw [← hw]; exact ev_pend q) (g1.noPend (x := x.dial1 s true now i si) hs (by rw [hst]; decide) hj)
  ·have h2 := dialed_w hph s.cn true now
   show ((x.P.set i (si.dialed s.cn true now)).map wt).sum + lat (A ++ _ :: B) ≤ _
   rw [lat_mid, if_neg (by show ¬ (4 : Int) = 1; decide)]
   omega
  ·intro sj hj
   obtain ⟨j, hj⟩ := List.mem_iff_getElem?.1 hj
   have hj : (x.dial1 s true now i si).P[j]? = some sj := hj
   have := hB1 j sj hj
   refine ⟨?_, this.2⟩
   by_cases e9 : j = i
   ·subst e9
    rw [hi1] at hj
    rw [← Option.some.inj hj, hC0]
   ·exact this.1 e9
  ·show (x.E ++ [_]).length ≤ _
   rw [List.length_append, List.length_singleton]; omega
 | false =>
  rw [if_neg (by decide)]
  have gd := g1.drain i
  have hs3 : s ∈ ((x.dial1 s false now i si).drain i).S := drain_keep g1 i hs (by rw [hst]; decide)
  obtain ⟨A3, B3, hS3⟩ := List.append_of_mem hs3
  have g3 : PXG { (x.dial1 s false now i si).drain i with b := ((x.dial1 s false now i si).drain i).b.doneX now s.cal false } := by
   refine ⟨?_, gd.nd, gd.ks, gd.bk, gd.po⟩
   have := gd.bl
   rw [drain_now] at this
   show (BS.doneX _ _ _ _).last ≤ ((x.dial1 s false now i si).drain i).now
   rw [drain_now]
   exact doneX_last _ _ _ _ this
  have hnd3 := (NoDial.dialed h.g hs hst hbe hi hn hnw).drain i
  have hpl3 : ((x.dial1 s false now i si).drain i).pl = x.pl := drain_pl _ i
  obtain ⟨r1, r2, r3, r4, r5⟩ := fldF_rest (x := { (x.dial1 s false now i si).drain i with b := ((x.dial1 s false now i si).drain i).b.doneX now s.cal false }) s
  refine ⟨g3.fldF hS3 (by rw [hst]; decide) hnd3 (by show ((x.dial1 s false now i si).drain i).pl.tries ≤ 100; rw [hpl3]; exact h.tr), ?_, ?_, ?_, by rw [r3]; show ((x.dial1 s false now i si).drain i).pl.tries ≤ 100; rw [hpl3]; exact h.tr⟩
  ·have h2 := dialed_lost_w hph s.cn now
   have h3 : lat _ ≤ lat (A3 ++ B3) + 1 := lat_fldF g3.nd hS3
   have h4 := drain_lat g1 i
   rw [hS3, lat_mid, if_neg (by rw [hst]; decide)] at h4
   have h4 : lat (A3 ++ B3) + 0 ≤ lat x.S := h4
   have h5 := drain_wP hi1
   have h5 : wP ((x.dial1 s false now i si).drain i).P = ((x.P.set i (si.dialed s.cn false now)).map wt).sum := h5
   unfold wX
   rw [r1]
   show wP ((x.dial1 s false now i si).drain i).P + _ ≤ _
   omega
  ·intro sj hj
   rw [r1] at hj
   exact drain_B hi1 hB1 sj hj
  ·have h6 : ((x.dial1 s false now i si).drain i).E.length ≤ x.E.length + (si.dialed s.cn false now).E.length := drain_E hi1
   have r4 : _ ≤ ((x.dial1 s false now i si).drain i).E.length + 1 := r4
   omega
theorem PXO.end_ {w b e : Nat} {x : PX} (h : PXO w b e x) {A B : List Ss} {s : Ss} (hS : x.S = A ++ s :: B) (hst : s.st = 4) (good : Bool) {now : Nat} (hn : x.now ≤ now) : PXO (w + 1) (b + 1) (e + 3) (x.endN s good now) := by
 have hs : s ∈ x.S := by rw [hS]; exact List.mem_append_right _ (List.mem_cons_self ..)
 obtain ⟨i, hbe, hil⟩ := h.g.bk s hs (.inr (.inr hst))
 obtain ⟨si, hi⟩ := getE (T := x.P) (i := i) hil
 have hph := (h.g.po i si hi).ph
 have hsE := (h.b si (List.mem_of_getElem? hi)).1
 have hsn := (h.b si (List.mem_of_getElem? hi)).2
 have g1 := h.g.end1 hS hst good hi hn
 have hX : x.endN s good now = PX.drain { x with now := now, P := x.P.set i (si.put s.cn good now), b := x.b.doneX now s.cal good, S := A ++ B } i := by
  rw [endN_eq hbe hi]; unfold PX.end1; rw [filt_num hS h.g.nd]
 have hi1 : (x.P.set i (si.put s.cn good now))[i]? = some (si.put s.cn good now) := List.getElem?_set_self hil
 have hpE := put_E si s.cn good now
 rw [hsE, List.length_nil] at hpE
 have hw1 := sum_set (f := wt) (si.put s.cn good now) hi
 have hl0 : lat x.S = lat (A ++ B) := by rw [hS, lat_mid, if_neg (by rw [hst]; decide)]; rfl
 have hw0 := h.w
 unfold wX wP at hw0
 have he0 := h.e
 rw [hX]
 refine ⟨g1.drain i, ?_, drain_B hi1 fun j sj hj => ?_, ?_, by rw [drain_pl]; exact h.tr⟩
 ·have h2 := put_w hph s.cn good now
  have h4 := drain_lat g1 i
  have h4 : lat _ ≤ lat (A ++ B) := h4
  unfold wX
  rw [drain_wP hi1]
  show ((x.P.set i (si.put s.cn good now)).map wt).sum + _ ≤ _
  omega
 ·have hj : (x.P.set i (si.put s.cn good now))[j]? = some sj := hj
  by_cases e9 : i = j
  ·subst e9
   rw [hi1] at hj
   refine ⟨fun q => absurd rfl q, ?_⟩
   rw [← Option.some.inj hj]
   by_cases he : si.inE s.cn 2 now = 0
   ·obtain ⟨k, _, _, _, r⟩ := put_R hph he good
    have := r.n; omega
   ·rw [put_no he]; omega
  ·rw [List.getElem?_set_ne e9] at hj
   have := h.b sj (List.mem_of_getElem? hj)
   exact ⟨fun _ => this.1, by omega⟩
 ·have h6 := drain_E (x := { x with now := now, P := x.P.set i (si.put s.cn good now), b := x.b.doneX now s.cal good, S := A ++ B }) hi1
  have h6 : _ ≤ x.E.length + (si.put s.cn good now).E.length := h6
  omega
theorem advP_w {x : PX} (h : PXG x) (i : Nat) : wX (x.advP x.now i) ≤ wX x := by
 unfold PX.advP
 cases hi : x.P[i]? with
 | none => exact Nat.le_refl _
 | some si =>
  have hp := h.po i si hi
  obtain ⟨a, b⟩ := ph_adv hp.ph hp.nw
  have g1 := h.pool hi (hp.op (opd_adv (pend_who hp) x.now) a b)
  have h1 := sum_set (f := wt) (si.advance x.now) hi
  have h2 := adv_w hp.ph x.now
  have h3 := drain_lat g1 i
  have h4 := drain_wP (x := { x with P := x.P.set i (si.advance x.now) }) (List.getElem?_set_self (List.getElem?_eq_some_iff.1 hi).1)
  have h4 : wP (PX.drain { x with P := x.P.set i (si.advance x.now) } i).P = ((x.P.set i (si.advance x.now)).map wt).sum := h4
  have h3 : lat (PX.drain { x with P := x.P.set i (si.advance x.now) } i).S ≤ lat x.S := h3
  show wP (PX.drain _ i).P + lat (PX.drain _ i).S ≤ wP x.P + lat x.S
  rw [h4]
  unfold wP
  omega
theorem advP_E {x : PX} (i : Nat) : (x.advP x.now i).E.length ≤ x.E.length + (match x.P[i]? with | none => 0 | some si => (si.advance x.now).E.length) := by
 unfold PX.advP
 cases hi : x.P[i]? with
 | none => exact Nat.le_refl _
 | some si => exact drain_E (x := { x with P := x.P.set i (si.advance x.now) }) (List.getElem?_set_self (List.getElem?_eq_some_iff.1 hi).1)
theorem advK_w {x : PX} (h : PXG x) {now : Nat} (hn : x.now ≤ now) : ∀ k, k ≤ x.P.length → wX (x.advK now k) ≤ wX x ∧ (x.advK now k).E.length + evS now (x.P.drop k) ≤ x.E.length + evS now x.P
 | 0, _ => ⟨Nat.le_refl _, Nat.le_refl _⟩
 | k + 1, hk => by
  obtain ⟨a, b⟩ := advK_w h hn k (by omega)
  have g := h.advK hn k
  obtain ⟨f1, f2, f3, f4⟩ := advK_facts x now k
  obtain ⟨si, hsi⟩ := getE (T := x.P) (i := k) (by omega)
  have h1 := advP_w g k
  have h2 := advP_E (x := x.advK now k) k
  rw [f4 k (Nat.le_refl _), hsi] at h2
  dsimp only at h2
  rw [f1] at h1 h2
  have h3 := evS_drop (now := now) hsi
  rw [advK_next]
  omega
theorem PXO.adv {w b e : Nat} {x : PX} (h : PXO w b e x) {now : Nat} (hn : x.now ≤ now) (hnm : ∀ s ∈ x.S, 0 ≤ s.num ∧ s.num ≤ 100) (hnk : ((x.advK now x.P.length).S.map (·.num)).length ≤ 101) : PXO w (b + 102) (e + w + 101) (x.adv now) := by
 have g0 := h.g.advK hn x.P.length
 obtain ⟨w0, e0⟩ := advK_w h.g hn x.P.length (Nat.le_refl _)
 rw [List.drop_length] at e0
 have e0 : (x.advK now x.P.length).E.length + 0 ≤ x.E.length + evS now x.P := e0
 have hev := evS_le h.g h.b now
 have hB0 := advK_B h.g h.b now x.P.length
 obtain ⟨f1, f2, f3, f4⟩ := advK_facts x now x.P.length
 have hdl : (x.advK now x.P.length).due.length ≤ 101 := by
  have a1 := (due_perm (x.advK now x.P.length)).length_eq
  have a2 := List.length_filter_le (fun s : Ss => decide (s.st = 1 ∧ s.til ≤ (x.advK now x.P.length).now)) (x.advK now x.P.length).S
  rw [List.length_map] at hnk
  omega
 have key : ∀ (L : List Ss) (y : PX) (k : Nat), PXG y → y.pl.tries ≤ 100 → PXB (b + 1 + k) y → (L.map (·.num)).Nodup → (∀ s ∈ L, s ∈ y.S ∧ s.st = 1) → PXG (L.foldl (PX.dueF now) y) ∧ wX (L.foldl (PX.dueF now) y) ≤ wX y ∧ PXB (b + 1 + k + L.length) (L.foldl (PX.dueF now) y) ∧ (L.foldl (PX.dueF now) y).E.length ≤ y.E.length + L.length ∧ (L.foldl (PX.dueF now) y).pl.tries ≤ 100 := by
  intro L
  induction L with
  | nil => intro y k g t bb _ _; exact ⟨g, Nat.le_refl _, bb, Nat.le_refl _, t⟩
  | cons s r ih =>
   intro y k g t bb hnd hL
   obtain ⟨hs, hst⟩ := hL s (List.mem_cons_self ..)
   obtain ⟨A, B, hS⟩ := List.append_of_mem hs
   rw [List.map_cons, List.nodup_cons] at hnd
   obtain ⟨r1, r2, r3, r4, r5⟩ := dueF_rest g now s bb
   obtain ⟨q1, q2, q3, q4, q5⟩ := ih (y.dueF now s) (k + 1) (g.dueF now hS hst t) (by rw [r2]; exact t) r4 hnd.2 fun z hz => ⟨dueF_only y now s z (hL z (List.mem_cons_of_mem _ hz)).1 (fun e9 => hnd.1 (by rw [← e9]; exact List.mem_map_of_mem hz)), (hL z (List.mem_cons_of_mem _ hz)).2⟩
   have hw := dueF_w g now hS hst
   rw [List.foldl_cons, List.length_cons]
   exact ⟨q1, Nat.le_trans q2 hw, by rw [show b + 1 + k + (r.length + 1) = b + 1 + (k + 1) + r.length from by omega]; exact q3, by omega, q5⟩
 obtain ⟨q1, q2, q3, q4, q5⟩ := key (x.advK now x.P.length).due (x.advK now x.P.length) 0 g0 (by rw [f2]; exact h.tr) hB0 (due_nodup g0.nd) fun s hs => ⟨(due_mem hs).1, (due_mem hs).2.1⟩
 have hw := h.w
 have he := h.e
 have hwP : wP x.P ≤ wX x := Nat.le_add_right _ _
 exact ⟨q1, Nat.le_trans q2 (Nat.le_trans w0 hw), fun s hs => ⟨(q3 s hs).1, by have := (q3 s hs).2; omega⟩, by show ((x.advK now x.P.length).due.foldl (PX.dueF now) (x.advK now x.P.length)).E.length ≤ _; omega, q5⟩
end Go.Proofs.YtelmlkdibcdebaaGreat
end
section
set_option linter.unusedVariables false
set_option maxRecDepth 20000
set_option maxHeartbeats 1000000
namespace Go.Proofs.YtelmlkdibcdebaaGreat
def PX.dialX (x : PX) (n : Int) (good : Bool) (now : Nat) : PX := if x.inX n 3 now ≠ 0 then x else match x.S.find? (fun s => decide (s.num = n)) with
 | none => x
 | some s => x.dialN s good now
def PX.endX (x : PX) (n : Int) (good : Bool) (now : Nat) : PX := if x.inX n 4 now ≠ 0 then x else match x.S.find? (fun s => decide (s.num = n)) with
 | none => x
 | some s => x.endN s good now
def PX.advX (x : PX) (now : Nat) : PX := if x.may true now ≠ 0 then x else x.adv now
def PX.stX (x : PX) (n : Int) : Int × Int × Int := match x.S.find? (fun s => decide (s.num = n)) with
 | none => (0, -1, -1)
 | some s => (s.st, s.be, s.cn)
def hdX : List Xv → Xv
 | [] => ⟨0, 0, 0, 0, 0⟩
 | e :: _ => e
theorem find_out {S : List Ss} {n : Int} (h : n ∉ S.map (·.num)) : S.find? (fun s => decide (s.num = n)) = none := List.find?_eq_none.2 fun s hs => by
 simp only [decide_eq_true_eq]
 exact fun e => h (by rw [← e]; exact List.mem_map_of_mem hs)
theorem drainL_num {Q : Int → Prop} (i : Nat) : ∀ (n : Nat) (x : PX), PXG x → (∀ s ∈ x.S, Q s.num) → ∀ s ∈ (PX.drainL i n x).S, Q s.num
 | 0, _, _, hq => hq
 | n + 1, x, h, hq => by
  unfold PX.drainL
  split
  ·exact hq
  ·rename_i si hi
   split
   ·exact hq
   ·rename_i e r hE
    obtain ⟨hk, g2⟩ := drE_ok h hi hE
    refine drainL_num i n _ g2 ?_
    rcases hk with hk | ⟨hk, A, s9, B, hS, hw, hst9, _⟩
    ·rw [drE_5 hk]; exact hq
    ·rw [hS] at hq
     have h9 : Q s9.num := hq s9 (List.mem_append_right _ (List.mem_cons_self ..))
     rcases hk with hk | hk | hk
     ·rw [drE_1 (x := x.nxP i si) h.nd hS hw.symm hk]
      exact mem_swap (p := fun s => Q s.num) hq _ h9
     ·rw [drE_2 (x := x.nxP i si) h.nd hS hw.symm hk]
      exact mem_swap (p := fun s => Q s.num) hq _ h9
     ·rw [drE_4 (x := x.nxP i si) h.nd hS hw.symm hk]
      exact mem_drop (p := fun s => Q s.num) hq
theorem drain_num {Q : Int → Prop} {x : PX} (h : PXG x) (i : Nat) (hq : ∀ s ∈ x.S, Q s.num) : ∀ s ∈ (x.drain i).S, Q s.num := by obtain ⟨n, e⟩ := drain_eqL x i; rw [e]; exact drainL_num i n x h hq
theorem advP_num {Q : Int → Prop} {x : PX} (h : PXG x) (i : Nat) (hq : ∀ s ∈ x.S, Q s.num) : ∀ s ∈ (x.advP x.now i).S, Q s.num := by
 unfold PX.advP
 cases hi : x.P[i]? with
 | none => exact hq
 | some si =>
  have hp := h.po i si hi
  obtain ⟨a, b⟩ := ph_adv hp.ph hp.nw
  exact drain_num (h.pool hi (hp.op (opd_adv (pend_who hp) x.now) a b)) i hq
theorem advK_num {Q : Int → Prop} {x : PX} (h : PXG x) {now : Nat} (hn : x.now ≤ now) (hq : ∀ s ∈ x.S, Q s.num) : ∀ k, ∀ s ∈ (x.advK now k).S, Q s.num
 | 0 => hq
 | k + 1 => by
  have ih := advK_num h hn hq k
  have g := h.advK hn k
  have := advP_num g k ih
  rw [(advK_facts x now k).1] at this
  rw [advK_next]; exact this
theorem PXO.b4 {w b e : Nat} {x : PX} (h : PXO w b e x) (hb : b ≤ 1000000) : ∀ si ∈ x.P, si.E.length ≤ 10000 ∧ si.n < 1000000000000 := fun si hi => by
 have := h.b si hi
 rw [this.1]; exact ⟨Nat.zero_le _, by omega⟩
theorem pre2 {a b : Ent} {R : Heap} {F : FuncId} {args : List Value} {v : Value} (h : Spec Tryz.prog F args [a, b] (fun r H' => r = v ∧ H' = [a, b])) : Spec Tryz.prog F args ([a, b] ++ R) (fun r H' => r = v ∧ H' = [a, b] ++ R) :=
 (h.fr R).mono fun r H' ⟨H1, ⟨e1, e2⟩, e3⟩ => ⟨e1, by rw [e3, e2]⟩
theorem pre1 {a : Ent} {R : Heap} {F : FuncId} {args : List Value} {v : Value} (h : Spec Tryz.prog F args [a] (fun r H' => r = v ∧ H' = [a])) : Spec Tryz.prog F args ([a] ++ R) (fun r H' => r = v ∧ H' = [a] ++ R) :=
 (h.fr R).mono fun r H' ⟨H1, ⟨e1, e2⟩, e3⟩ => ⟨e1, by rw [e3, e2]⟩
theorem xl_begin {N : Nat} {m : XM} {x : PX} {w b e : Nat} (h : PXIs N m x) (o : PXO w b e x) (hN : N ≤ 8000) (hE : e ≤ 10000) (hB : b ≤ 1000000) (n : Int) (now dl : Nat) (hb : now ≤ 18446744073709551615) (key : ByteArray) :
  Spec Tryz.prog 12 [ptrP m.p, .int .i64 n, .int .u64 (now : Int), .int .u64 (dl : Int), .string key] (pxH m x) (fun r H' => ∃ m' x', r = .int .i64 (x.begE n now dl key) ∧ H' = pxH m' x' ∧ PXIs (N + 1) m' x' ∧ m'.p = m.p ∧ PXO (w + 1) (b + 1) (e + 1) x' ∧ ((x.begE n now dl key ≠ 0 ∧ x' = x) ∨ (x.begE n now dl key = 0 ∧ ∃ p, x' = x.begin n now dl key p))) := by
 by_cases he : x.begE n now dl key = 0
 ·refine (xbegin_ok h o.g (by omega) (Nat.le_trans o.e hE) (o.b4 hB) n now dl hb key he).mono ?_
  rintro r H' ⟨m', p, h1, h2, h3, h4⟩
  exact ⟨m', _, by rw [he]; exact h1, h2, h3, h4, o.begin p he, .inr ⟨he, p, rfl⟩⟩
 ·refine (pre2 (R := [pxV m x, pxQ m] ++ (ssH x.S ++ (balH m.bm ++ poolsH m.pm x.P))) (xbegin_bad h n now dl key he)).mono ?_
  rintro r H' ⟨h1, h2⟩
  exact ⟨m, x, h1, h2, h.le (Nat.le_succ N), rfl, o.le (Nat.le_succ _) (Nat.le_succ _) (Nat.le_succ _), .inl ⟨he, rfl⟩⟩
theorem xl_dialed {N : Nat} {m : XM} {x : PX} {w b e : Nat} (h : PXIs N m x) (o : PXO w b e x) (hN : N ≤ 7000) (hE : e ≤ 10000) (n : Int) (good : Bool) (now : Nat) (hb : now ≤ 18446744073709551615) :
  Spec Tryz.prog 13 [ptrP m.p, .int .i64 n, .bool good, .int .u64 (now : Int)] (pxH m x) (fun r H' => ∃ m', r = .int .i64 (x.inX n 3 now) ∧ H' = pxH m' (x.dialX n good now) ∧ PXIs (N + 21) m' (x.dialX n good now) ∧ m'.p = m.p ∧ PXO (w + 1) (b + 1) (e + 3) (x.dialX n good now)) := by
 by_cases he : x.inX n 3 now = 0
 ·obtain ⟨A, s, B, hS, rfl, hst, hm, hr, hn1, hn2⟩ := inX_zero he
  have hs : s ∈ x.S := by rw [hS]; exact List.mem_append_right _ (List.mem_cons_self ..)
  have hX : x.dialX s.num good now = x.dialN s good now := by unfold PX.dialX; rw [if_neg (by rw [he]; decide), find_num o.g.nd hs]
  obtain ⟨i, hbe, hil⟩ := o.g.bk s hs (.inr (.inl hst))
  obtain ⟨si, hi⟩ := getE (T := x.P) (i := i) hil
  have hsE := (o.b si (List.mem_of_getElem? hi)).1
  rw [he, hX]
  have oo := o.dialed hS hst good hn1 hn2
  have hdE := dialed_E si s.cn good now
  rw [hsE, List.length_nil] at hdE
  cases good with
  | true =>
   refine (xdialed_made h o.g (by omega) (Nat.le_trans o.e hE) hS hst hb hm hbe hi (by rw [hsE]; exact Nat.zero_le _)).mono ?_
   rintro r H' ⟨m', h1, h2, h3, h4⟩
   exact ⟨m', h1, h2, h3.le (by omega), h4, oo⟩
  | false =>
   refine (xdialed_lost h o.g (by omega) (Nat.le_trans o.e hE) hS hst hb hm hbe hi (by rw [hsE]; exact Nat.zero_le _) (by omega)).mono ?_
   rintro r H' ⟨m', h1, h2, h3, h4⟩
   exact ⟨m', h1, h2, h3, h4, oo⟩
 ·have hX : x.dialX n good now = x := by unfold PX.dialX; rw [if_pos he]
  rw [hX]
  refine (xdialed_err h n good now he).mono ?_
  rintro r H' ⟨h1, h2⟩
  exact ⟨m, h1, h2, h.le (by omega), rfl, o.le (by omega) (by omega) (by omega)⟩
theorem xl_end {N : Nat} {m : XM} {x : PX} {w b e : Nat} (h : PXIs N m x) (o : PXO w b e x) (hN : N ≤ 7000) (hE : e ≤ 10000) (n : Int) (good : Bool) (now : Nat) (hb : now ≤ 18446744073709551615) :
  Spec Tryz.prog 14 [ptrP m.p, .int .i64 n, .bool good, .int .u64 (now : Int)] (pxH m x) (fun r H' => ∃ m', r = .int .i64 (x.inX n 4 now) ∧ H' = pxH m' (x.endX n good now) ∧ PXIs (N + 21) m' (x.endX n good now) ∧ m'.p = m.p ∧ PXO (w + 1) (b + 1) (e + 3) (x.endX n good now)) := by
 by_cases he : x.inX n 4 now = 0
 ·obtain ⟨A, s, B, hS, rfl, hst, hm, hr, hn1, hn2⟩ := inX_zero he
  have hs : s ∈ x.S := by rw [hS]; exact List.mem_append_right _ (List.mem_cons_self ..)
  have hX : x.endX s.num good now = x.endN s good now := by unfold PX.endX; rw [if_neg (by rw [he]; decide), find_num o.g.nd hs]
  obtain ⟨i, hbe, hil⟩ := o.g.bk s hs (.inr (.inr hst))
  obtain ⟨si, hi⟩ := getE (T := x.P) (i := i) hil
  have hsE := (o.b si (List.mem_of_getElem? hi)).1
  rw [he, hX]
  have oo := o.end_ hS hst good hn1
  have hdE := put_E si s.cn good now
  rw [hsE, List.length_nil] at hdE
  refine (xend_ok h o.g (by omega) (Nat.le_trans o.e hE) hS hst good hb hm hbe hi (by rw [hsE]; exact Nat.zero_le _) (by omega)).mono ?_
  rintro r H' ⟨m', h1, h2, h3, h4⟩
  exact ⟨m', h1, h2, h3, h4, oo⟩
 ·have hX : x.endX n good now = x := by unfold PX.endX; rw [if_pos he]
  rw [hX]
  refine (xend_err h n good now he).mono ?_
  rintro r H' ⟨h1, h2⟩
  exact ⟨m, h1, h2, h.le (by omega), rfl, o.le (by omega) (by omega) (by omega)⟩
theorem xl_adv {N : Nat} {m : XM} {x : PX} {w b e : Nat} (h : PXIs N m x) (o : PXO w b e x) (hN : N ≤ 7000) (hw : w ≤ 57) (hE : e ≤ 10000) (hB : b ≤ 1000000) (hP : x.P.length ≤ 100) (now : Nat) (hb : now ≤ 18446744073709551615) :
  Spec Tryz.prog 15 [ptrP m.p, .int .u64 (now : Int)] (pxH m x) (fun r H' => ∃ m', r = .int .i64 (x.may true now) ∧ H' = pxH m' (x.advX now) ∧ PXIs (N + w + 101) m' (x.advX now) ∧ m'.p = m.p ∧ PXO w (b + 102) (e + w + 101) (x.advX now)) := by
 by_cases he : x.may true now = 0
 ·have hX : x.advX now = x.adv now := by unfold PX.advX; rw [if_neg (by rw [he]; decide)]
  obtain ⟨_, hn1, hn2⟩ := xmay_zero_of he
  have hev := evS_le o.g o.b now
  have hww := o.w
  have hwP : wP x.P ≤ wX x := Nat.le_add_right _ _
  rw [he, hX]
  refine (xadv_ok h o.g now hb he (Nat.le_trans o.e hE) hP o.b (by omega) (fun si hs => by have := o.cnt si hs; omega) (by omega)).mono ?_
  rintro r H' ⟨m', N', h1, h2, h3, h4, h5⟩
  refine ⟨m', h1, h2, h4.le (by omega), h5, o.adv hn1 h.num ?_⟩
  rw [List.length_map]
  exact nums_len (o.g.advK hn1 x.P.length).nd (advK_num (Q := fun n => 0 ≤ n ∧ n ≤ 100) o.g hn1 h.num x.P.length)
 ·have hX : x.advX now = x := by unfold PX.advX; rw [if_pos he]
  rw [hX]
  refine (pre1 (R := [pxM m, pxV m x, pxQ m] ++ (ssH x.S ++ (balH m.bm ++ poolsH m.pm x.P))) (xadv_err m x now he)).mono ?_
  rintro r H' ⟨h1, h2⟩
  exact ⟨m, h1, h2, h.le (by omega), rfl, o.le (by omega) (by omega) (by omega)⟩
end Go.Proofs.YtelmlkdibcdebaaGreat
end
section
set_option linter.unusedVariables false
set_option maxRecDepth 20000
namespace Go.Proofs.YtelmlkdibcdebaaGreat
abbrev encR (s : Ss) : List Value := [.int .i64 s.num, .string s.key, .int .u64 (s.dl : Int), .int .u64 (s.til : Int), .int .i64 (s.tr : Int), .int .i64 s.st, .int .i64 s.cal, .int .i64 s.be, .int .i64 s.cn]
theorem encR9 (s : Ss) : (encR s).length = 9 := rfl
structure MM where
 p : Nat
 bm : Bm
 pm : List PM
 ob : Option Nat
 oc : Nat
 otl : List Value
 so : Option Nat
 sc : Nat
 stl : List Value
 eb : Option Nat
 ek : Nat
 ec : Nat
 epre : List Value
 etl : List Value
abbrev mdC (M : MM) (x : PX) : List Value := [ptrB M.bm.p, slV M.ob x.P.length M.oc, .int .u64 (x.pl.base : Int), .int .u64 (x.pl.most : Int), .int .i64 x.pl.num, .int .i64 x.pl.den, .int .i64 x.pl.tries, .int .i64 x.pl.jit, .int .u32 (x.pl.seed : Int), .int .u64 (x.now : Int), slV M.so x.S.length M.sc, sVal M.eb M.ek x.E.length M.ec]
abbrev mdE (M : MM) (x : PX) : Ent := ⟨some M.p, cl (mdC M x) 60⟩
abbrev mdS (M : MM) (x : PX) : Ent := ⟨M.so, cl (x.S.flatMap encR ++ M.stl) 84⟩
abbrev mdV (M : MM) (x : PX) : Ent := ⟨M.eb, cl (M.epre ++ (x.E.flatMap encX ++ M.etl)) 63⟩
abbrev mdQ (M : MM) : Ent := ⟨M.ob, cl (M.pm.flatMap (fun q => [ptrP q.p]) ++ M.otl) 79⟩
abbrev mdH (M : MM) (x : PX) : Heap := [mdE M x, mdS M x, mdV M x, mdQ M] ++ (balH M.bm ++ poolsH M.pm x.P)
structure MIs (N : Nat) (M : MM) (x : PX) : Prop where
 bal : BIs N M.bm x.b
 len : M.pm.length = x.P.length
 po : ∀ (i : Nat) (mi : PM) (si : PS), M.pm[i]? = some mi → x.P[i]? = some si → PIs mi si
 oq : Own M.ob x.P.length M.oc 1 (M.pm.flatMap (fun q => [ptrP q.p])) M.otl
 sO : Own M.so x.S.length M.sc 9 (x.S.flatMap encR) M.stl
 eO : OwnS M.eb M.ek x.E.length M.ec 5 M.epre (x.E.flatMap encX) M.etl
 ok : OkP x.pl
 seed : x.pl.seed < 4294967296
 vl : x.b.V.length = x.P.length
 now : x.now ≤ 18446744073709551614
theorem MIs.le {N N2 : Nat} {M : MM} {x : PX} (h : MIs N M x) (hN : N ≤ N2) : MIs N2 M x := ⟨h.bal.le hN, h.len, h.po, h.oq, h.sO, h.eO, h.ok, h.seed, h.vl, h.now⟩
def idS (n : Int) : List Ss → Int
 | [] => -1
 | s :: r => if s.num = n then 0 else if idS n r = -1 then -1 else idS n r + 1
theorem idS_hit {n : Int} {y : Ss} : ∀ {l : List Ss} {k : Nat}, (∀ v ∈ l.take k, v.num ≠ n) → l[k]? = some y → y.num = n → idS n l = (k : Int)
 | [], k, _, hx, _ => by simp at hx
 | s :: r, 0, _, hx, hp => by simp at hx; subst hx; simp [idS, hp]
 | s :: r, k + 1, h, hx, hp => by
  have h1 : s.num ≠ n := h s (by simp)
  have ih := idS_hit (l := r) (k := k) (fun v hv => h v (by simp [hv])) (by simpa using hx) hp
  rw [idS, if_neg h1, ih, if_neg (by omega)]; omega
theorem idS_none {n : Int} : ∀ {l : List Ss}, (∀ v ∈ l, v.num ≠ n) → idS n l = -1
 | [], _ => rfl
 | s :: r, h => by rw [idS, if_neg (h s (by simp)), if_pos (idS_none fun v hv => h v (by simp [hv]))]
theorem idS_at {S A B : List Ss} {s : Ss} (hS : S = A ++ s :: B) (hn : (S.map (·.num)).Nodup) : idS s.num S = (A.length : Int) := by
 have h1 := num_split hS hn
 refine idS_hit (y := s) (fun v hv => ?_) ?_ rfl
 ·rw [hS, List.take_left'] at hv
  ·exact h1 v (List.mem_append_left _ hv)
  ·rfl
 ·rw [hS, List.getElem?_append_right (Nat.le_refl _), Nat.sub_self]; rfl
theorem idS_no {S : List Ss} {n : Int} (h : n ∉ S.map (·.num)) : idS n S = -1 := idS_none fun v hv e => h (by rw [← e]; exact List.mem_map_of_mem hv)
def setS (S : List Ss) (s : Ss) : List Ss := if s.num ∈ S.map (·.num) then updS S s.num fun _ => s else S ++ [s]
end Go.Proofs.YtelmlkdibcdebaaGreat
end
section
set_option linter.unusedVariables false
namespace Go.Proofs.YtelmlkdibcdebaaGreat
section
variable {X : Ctx} {E : Env} {H : Heap} {o : Oper}
theorem D_appendIn {t e : TypeId} {sz bytes m mc : Nat} {zs news : List Value} {oa : Option Addr} {x y : Operand}
    (ho : o.op = .call { callee := .builtin .append, args := #[x, y], argTypes := #[t, t] }) (hs : SI X.P t e sz bytes zs) (hx : ev E x = some (.slice none 0 0)) (hy : ev E y = some (.slice oa m mc))
    (hin : 0 < m → ∃ b k cs e2 fr, oa = some ⟨b, k, none⟩ ∧ (⟨some b, .cells (List.toArray cs) e2 fr⟩ : Ent) ∈ H ∧ At cs k news) (hl : news.length = m * sz) (hroom : m * bytes ≤ 140737488355328) (h63 : m ≤ 9223372036854775807) :
    Does X o E H (fun v H' => ∃ ob' c' tl', v = slV ob' m c' ∧ Own ob' m c' sz news tl' ∧ H' = ⟨ob', cl (news ++ tl') e⟩ :: H) := by
  intro a w ha hw next Q kk
  obtain ⟨g1, i, z, g2, g3, g4, g5, g6, g7, g8⟩ := hs
  refine ⟨about_true, ?_⟩
  rw [semAt_of (by rw [ho]; intro c e; cases e)]
  have hexec : ∀ v w', (Builtin.append_ #[t, t] o.type #[slV none 0 0, .slice oa m mc]).run X.P w = .ok v w' → (execOp a.eval o).run X.P w = .ok (.value v) w' := fun v w' h => by
    have h' : (Builtin.append_ #[t, t] o.type #[.slice none 0 0, .slice oa m mc]).run X.P w = .ok v w' := h
    simp [execOp, ho, resolve, ha.eval hx, ha.eval hy, invoke, builtin, h']
  have hl' : news.length = m * i.size := by rw [g4]; exact hl
  by_cases hm0 : m = 0
  · subst hm0
    have hne : news = [] := List.eq_nil_of_length_eq_zero (by simpa using hl)
    subst hne
    have hr : (Builtin.append_ #[t, t] o.type #[slV none 0 0, .slice oa 0 mc]).run X.P w = .ok (slV none 0 0) w := by
      cases oa <;> simp [Builtin.append_, slV, run_underlying g1, sizeOf, typeInfo, g2, Builtin.lenOf, Builtin.firstCells, loadCells, loadCellsFrom]
    rw [hexec _ _ hr]
    refine kk _ _ _ ⟨none, 0, [], rfl, Own.empty sz, rfl⟩ ?_
    exact hw.addNone e
  · obtain ⟨b2, k2, cs2, e2, fr, rfl, hm, hat⟩ := hin (by omega)
    have hnews : ∀ j v, news[j]? = some v → w.cell? ((⟨b2, k2, none⟩ : Addr).add j) = some v := fun j v hj => by
      rw [add_at, cell_ofG hw hm]; exact hat j v hj
    have hr := run_append_nil (P := X.P) w t o.type e i z g1 g2 g3 ⟨b2, k2, none⟩ m mc news hl' hnews (by omega) (by omega) (by rw [g5]; omega)
    rw [hexec _ _ hr]
    obtain ⟨tl', e1, e2⟩ := grown_own (w := w) (n := 0) (m := m) (c := 0) (e := e) (xs := []) (news := news) (zs := zs) (by simp) hl g7 (by omega) w.heap.size
    simp only [Nat.zero_add, List.nil_append, Array.empty_append] at e1 e2
    rw [g6]
    rw [e1]
    refine kk _ _ _ ⟨some w.heap.size, _, tl', ?_, by simpa using e2, rfl⟩ ((hw.drew).alloc (cl (news ++ tl') e))
    simp [slV]
end
end Go.Proofs.YtelmlkdibcdebaaGreat
end
section
set_option linter.unusedVariables false
set_option maxRecDepth 20000
set_option maxHeartbeats 2000000
namespace Go.Proofs.YtelmlkdibcdebaaGreat
structure A9 where
 wt : Int
 n : Int
 now : Nat
 dl : Nat
 key : ByteArray
 good : Bool
theorem ivs_get (W : List Int) (j : Nat) : (ivs W)[j]? = (W[j]?).map (fun v => .int .i64 v) := by
 have : ivs W = W.map (fun v => Value.int .i64 v) := by
  unfold ivs
  induction W with
  | nil => rfl
  | cons a r ih => rw [List.flatMap_cons, List.map_cons, ih]; rfl
 rw [this, List.getElem?_map]
theorem rd_in {oa : Option Addr} {x : Ent} {W : List Int} {H : Heap} (h : Rd oa x W) (hm : x ∈ H) (hl : 0 < W.length) : ∃ b k cs e2 fr, oa = some ⟨b, k, none⟩ ∧ (⟨some b, .cells (List.toArray cs) e2 fr⟩ : Ent) ∈ H ∧ At cs k (ivs W) := by
 obtain ⟨b, k, cs, e, fr, h1, rfl, h3⟩ := h hl
 refine ⟨b, k, cs, e, fr, h1, hm, fun j v hj => ?_⟩
 rw [ivs_get] at hj
 cases hw : W[j]? with
 | none => rw [hw] at hj; cases hj
 | some u =>
  rw [hw] at hj
  have := h3 j u hw
  rw [Nat.mul_one] at this
  rw [this]; exact hj
def fewB (n : Nat) (T : List A9) (most : Nat) : Prop := (∀ a ∈ T.take most, a.key.size ≤ 100) ∧ T.length ≤ most ∧ (n ≤ 8 ∨ n = 65)
instance (n : Nat) (T : List A9) (most : Nat) : Decidable (fewB n T most) := by unfold fewB; infer_instance
theorem few_nil (k : Int) (oa : Option Addr) (n c : Nat) (limit : Int) (brk : Nat) (op idle : Int) (keep : Nat) (p : Plan) (hn : n ≤ 9223372036854775807) : Spec Tryz.prog 7 [.agg (xsetL k oa n c limit brk op idle keep p).toArray, .slice none 0 0, .int .i64 0] [] (fun r H' => r = .bool (decide (n ≤ 8 ∨ n = 65)) ∧ H' = []) := by
 refine Spec.of (E := [(0, .agg (xsetL k oa n c limit brk op idle keep p).toArray), (1, .slice none 0 0), (2, .int .i64 0)]) Tryz.func7 rfl (by kernel_rfl) Tryz.ntmps7 rfl rfl (fun w => ?_)
 refine WC_seq (WC_region ?_)
 refine WL_do rfl rfl rfl (D_box (cs := [_, _, _, _, _, _, _, _, _, _, _, _, _, _]) rfl rfl rfl) ?_
 rintro _ _ ⟨b1, rfl, rfl⟩
 refine WLa rfl (WL_nil (WQ_code (WC_seq (WC_seq (WC_region (WLa rfl (WL_nil (WQ_code (WC_block ?_)))))))))
 refine WC_loopF (G := Unit) [6, 7, 8, 9, 10, 11, 12, 13, 14, 15, 16, 17, 18, 19, 20, 21, 22, 23, 24, 25] (fun y => True) (fun y => [(7, .int .i64 0)]) (fun y => []) (fun y => 0) (()) (trivial) leZ (pqZ) ?_
 rintro y _
 refine WC_seq (WC_seq (WC_region (WLa rfl (WLa rfl ?_))))
 refine WL_val rfl rfl rfl (R_len rfl Tryz.underlying41 rfl) ?_
 refine WL_val rfl rfl rfl (R_lss rfl rfl rfl) ?_
 refine WLa rfl ?_
 refine WL_splitD (s := 12) rfl (fun c1 => ?_) (fun c1 => ?_)
 ·refine WLa rfl (WLa rfl ?_)
  refine WL_val rfl rfl rfl (R_lss rfl rfl rfl) ?_
  refine WLa rfl (WL_nil (WQ_code ?_))
  refine WC_dF rfl (by decide) ?_
  refine WC_exit (WQ_code (WC_seq (WC_region (WLa rfl ?_))))
  refine WL_val rfl rfl rfl (R_len rfl Tryz.underlying41 rfl) ?_
  refine WLa rfl ?_
  refine WL_val rfl rfl rfl (R_leq rfl rfl rfl) ?_
  refine WLa rfl ?_
  refine WL_splitD (s := 30) rfl (fun c2 => ?_) (fun c2 => ?_)
  ·refine WL_val rfl rfl rfl (R_fieldAddr rfl fa30_1 rfl) ?_
   refine WL_val rfl rfl rfl (R_load rfl sc23 rfl (mmZ) rfl) ?_
   refine WL_val rfl rfl rfl (R_len rfl Tryz.underlying23 rfl) ?_
   refine WL_val rfl rfl rfl (R_leq rfl rfl rfl) ?_
   refine WLa rfl ?_
   refine WL_splitD (s := 35) rfl (fun c3 => ?_) (fun c3 => ?_)
   ·refine WL_skip rfl rfl rfl ?_
    refine WL_skip rfl rfl rfl ?_
    refine WL_skip rfl rfl rfl ?_
    refine WL_skip rfl rfl rfl ?_
    refine WLa rfl (WLa rfl (WLa rfl (WL_nil (WQ_code (WC_ret ?_)))))
    refine WQ_ret rfl rfl (.cons (.tmp rfl) .nil) rfl (by
      exact ⟨congrArg Value.bool (by grind), rfl⟩) (pqZ)
   ·refine WL_val rfl rfl rfl (R_fieldAddr rfl fa30_1 rfl) ?_
    refine WL_val rfl rfl rfl (R_load rfl sc23 rfl (mmZ) rfl) ?_
    refine WL_val rfl rfl rfl (R_len rfl Tryz.underlying23 rfl) ?_
    refine WL_val rfl rfl rfl (R_eql rfl rfl rfl) ?_
    refine WLa rfl (WLa rfl (WLa rfl (WL_nil (WQ_code (WC_ret ?_)))))
    refine WQ_ret rfl rfl (.cons (.tmp rfl) .nil) rfl (by
      exact ⟨congrArg Value.bool (by grind), rfl⟩) (pqZ)
  ·refine WL_skip rfl rfl rfl ?_
   refine WL_skip rfl rfl rfl ?_
   refine WL_skip rfl rfl rfl ?_
   refine WL_skip rfl rfl rfl ?_
   refine WL_skip rfl rfl rfl ?_
   refine WL_skip rfl rfl rfl ?_
   refine WL_skip rfl rfl rfl ?_
   refine WL_skip rfl rfl rfl ?_
   refine WL_skip rfl rfl rfl ?_
   refine WL_skip rfl rfl rfl ?_
   refine WLa rfl (WLa rfl (WL_nil (WQ_code (WC_ret ?_))))
   refine WQ_ret rfl rfl (.cons (.tmp rfl) .nil) rfl (by
     exact ⟨congrArg Value.bool (by grind), rfl⟩) (pqZ)
 ·refine WL_skip rfl rfl rfl ?_
  refine WL_skip rfl rfl rfl ?_
  refine WL_skip rfl rfl rfl ?_
  refine WLa rfl (WL_nil (WQ_code ?_))
  refine WC_F rfl ?_
  refine WC_exit (WQ_code (WC_seq (WC_region (WLa rfl ?_))))
  refine WL_val rfl rfl rfl (R_len rfl Tryz.underlying41 rfl) ?_
  refine WLa rfl ?_
  refine WL_val rfl rfl rfl (R_leq rfl rfl rfl) ?_
  refine WLa rfl ?_
  refine WL_splitD (s := 30) rfl (fun c4 => ?_) (fun c4 => ?_)
  ·refine WL_val rfl rfl rfl (R_fieldAddr rfl fa30_1 rfl) ?_
   refine WL_val rfl rfl rfl (R_load rfl sc23 rfl (mmZ) rfl) ?_
   refine WL_val rfl rfl rfl (R_len rfl Tryz.underlying23 rfl) ?_
   refine WL_val rfl rfl rfl (R_leq rfl rfl rfl) ?_
   refine WLa rfl ?_
   refine WL_splitD (s := 35) rfl (fun c5 => ?_) (fun c5 => ?_)
   ·refine WL_skip rfl rfl rfl ?_
    refine WL_skip rfl rfl rfl ?_
    refine WL_skip rfl rfl rfl ?_
    refine WL_skip rfl rfl rfl ?_
    refine WLa rfl (WLa rfl (WLa rfl (WL_nil (WQ_code (WC_ret ?_)))))
    refine WQ_ret rfl rfl (.cons (.tmp rfl) .nil) rfl (by
      exact ⟨congrArg Value.bool (by grind), rfl⟩) (pqZ)
   ·refine WL_val rfl rfl rfl (R_fieldAddr rfl fa30_1 rfl) ?_
    refine WL_val rfl rfl rfl (R_load rfl sc23 rfl (mmZ) rfl) ?_
    refine WL_val rfl rfl rfl (R_len rfl Tryz.underlying23 rfl) ?_
    refine WL_val rfl rfl rfl (R_eql rfl rfl rfl) ?_
    refine WLa rfl (WLa rfl (WLa rfl (WL_nil (WQ_code (WC_ret ?_)))))
    refine WQ_ret rfl rfl (.cons (.tmp rfl) .nil) rfl (by
      exact ⟨congrArg Value.bool (by grind), rfl⟩) (pqZ)
  ·refine WL_skip rfl rfl rfl ?_
   refine WL_skip rfl rfl rfl ?_
   refine WL_skip rfl rfl rfl ?_
   refine WL_skip rfl rfl rfl ?_
   refine WL_skip rfl rfl rfl ?_
   refine WL_skip rfl rfl rfl ?_
   refine WL_skip rfl rfl rfl ?_
   refine WL_skip rfl rfl rfl ?_
   refine WL_skip rfl rfl rfl ?_
   refine WL_skip rfl rfl rfl ?_
   refine WLa rfl (WLa rfl (WL_nil (WQ_code (WC_ret ?_))))
   refine WQ_ret rfl rfl (.cons (.tmp rfl) .nil) rfl (by
     exact ⟨congrArg Value.bool (by grind), rfl⟩) (pqZ)
end Go.Proofs.YtelmlkdibcdebaaGreat
end
section
set_option linter.unusedVariables false
set_option maxRecDepth 20000
namespace Go.Proofs.YtelmlkdibcdebaaGreat
open Go.ChangeShapes Go.WideShapes Go.ChangeAt Go.RowKit Go.Joins Go.Deep
theorem decI {H : Type} {enc : TypeId × Value → H} {W : World} {sp : Nat → Bool} {held : Bool} (m : Nat) (cs : List Value) (y : DataW H × List MemPlace) (h : DataW.trod enc Tryz.prog W 0 sp held m 3 cs = some y) : ∃ x : Int, cs = encI x ∧ True := by
 obtain ⟨n, rfl, _, w⟩ := DataW.trod_int Tryz.underlying3 h
 exact ⟨n, rfl, trivial⟩
theorem decS {H : Type} {enc : TypeId × Value → H} {W : World} {sp : Nat → Bool} {held : Bool} (m : Nat) (cs : List Value) (y : DataW H × List MemPlace) (h : DataW.trod enc Tryz.prog W 0 sp held m 30 cs = some y) :
  ∃ (x0 : Int) (oa1 : Option Addr) (en1 : Ent) (l1 : List Int) (c1 : Nat) (x2 : Int) (x3 : Int) (x4 : Int) (x5 : Int) (x6 : Int) (x7 : Int) (x8 : Int) (x9 : Int) (x10 : Int) (x11 : Int) (x12 : Int) (x13 : Int), cs = [.int .i64 x0, .slice oa1 l1.length c1, .int .i64 x2, .int .u64 x3, .int .i64 x4, .int .i64 x5, .int .u64 x6, .int .u64 x7, .int .u64 x8, .int .i64 x9, .int .i64 x10, .int .i64 x11, .int .i64 x12, .int .u32 x13] ∧ (Lit.int .i64 x0).wf = true ∧ (Lit.int .i64 x2).wf = true ∧ (Lit.int .u64 x3).wf = true ∧ (Lit.int .i64 x4).wf = true ∧ (Lit.int .i64 x5).wf = true ∧ (Lit.int .u64 x6).wf = true ∧ (Lit.int .u64 x7).wf = true ∧ (Lit.int .u64 x8).wf = true ∧ (Lit.int .i64 x9).wf = true ∧ (Lit.int .i64 x10).wf = true ∧ (Lit.int .i64 x11).wf = true ∧ (Lit.int .i64 x12).wf = true ∧ (Lit.int .u32 x13).wf = true ∧ Arg oa1 en1 1 encI l1 ∧ en1.ok W ∧ l1.length ≤ maxLen ∧ (∀ y ∈ l1, (fun _ => True) y) ∧ True := by
 have hl : cs.length = 14 := (trod_len Tryz.underlying30 h).trans (by kernel_rfl)
 have s3 : Tryz.prog.cellsOf 3 = 1 := by kernel_rfl
 have s22 : Tryz.prog.cellsOf 22 = 1 := by kernel_rfl
 have s23 : Tryz.prog.cellsOf 23 = 1 := by kernel_rfl
 have s25 : Tryz.prog.cellsOf 25 = 1 := by kernel_rfl
 have s26 : Tryz.prog.cellsOf 26 = 1 := by kernel_rfl
 have s28 : Tryz.prog.cellsOf 28 = 7 := by kernel_rfl
 obtain ⟨ng0, yg0, g0⟩ := trod_fld Tryz.underlying30 h (i := 0) rfl
 obtain ⟨x0, e0, _, w0⟩ := DataW.trod_int Tryz.underlying22 g0
 have e0 : (cs.drop 0).take (Tryz.prog.cellsOf 22) = [.int .i64 x0] := e0
 simp only [s22] at e0
 have k0 : cs.drop 0 = .int .i64 x0 :: cs.drop 1 := drop_cons e0
 obtain ⟨ng1, yg1, g1⟩ := trod_fld Tryz.underlying30 h (i := 1) rfl
 obtain ⟨oa1, en1, l1, c1, e1, ha1, ho1, hb1, hg1⟩ := open_argT (enc' := encI) (G := fun _ => True) (sz := 1) Tryz.underlying23 (by kernel_rfl) (by omega) (fun m cs y h => decI m cs y h) g1
 have e1 : (cs.drop 1).take (Tryz.prog.cellsOf 23) = [.slice oa1 l1.length c1] := e1
 simp only [s23] at e1
 have k1 : cs.drop 1 = .slice oa1 l1.length c1 :: cs.drop 2 := drop_cons e1
 obtain ⟨ng2, yg2, g2⟩ := trod_fld Tryz.underlying30 h (i := 2) rfl
 obtain ⟨x2, e2, _, w2⟩ := DataW.trod_int Tryz.underlying3 g2
 have e2 : (cs.drop 2).take (Tryz.prog.cellsOf 3) = [.int .i64 x2] := e2
 simp only [s3] at e2
 have k2 : cs.drop 2 = .int .i64 x2 :: cs.drop 3 := drop_cons e2
 obtain ⟨ng3, yg3, g3⟩ := trod_fld Tryz.underlying30 h (i := 3) rfl
 obtain ⟨x3, e3, _, w3⟩ := DataW.trod_int Tryz.underlying25 g3
 have e3 : (cs.drop 3).take (Tryz.prog.cellsOf 25) = [.int .u64 x3] := e3
 simp only [s25] at e3
 have k3 : cs.drop 3 = .int .u64 x3 :: cs.drop 4 := drop_cons e3
 obtain ⟨ng4, yg4, g4⟩ := trod_fld Tryz.underlying30 h (i := 4) rfl
 obtain ⟨x4, e4, _, w4⟩ := DataW.trod_int Tryz.underlying3 g4
 have e4 : (cs.drop 4).take (Tryz.prog.cellsOf 3) = [.int .i64 x4] := e4
 simp only [s3] at e4
 have k4 : cs.drop 4 = .int .i64 x4 :: cs.drop 5 := drop_cons e4
 obtain ⟨ng5, yg5, g5⟩ := trod_fld Tryz.underlying30 h (i := 5) rfl
 obtain ⟨x5, e5, _, w5⟩ := DataW.trod_int Tryz.underlying3 g5
 have e5 : (cs.drop 5).take (Tryz.prog.cellsOf 3) = [.int .i64 x5] := e5
 simp only [s3] at e5
 have k5 : cs.drop 5 = .int .i64 x5 :: cs.drop 6 := drop_cons e5
 obtain ⟨ng6, yg6, g6⟩ := trod_fld Tryz.underlying30 h (i := 6) rfl
 obtain ⟨x6, e6, _, w6⟩ := DataW.trod_int Tryz.underlying25 g6
 have e6 : (cs.drop 6).take (Tryz.prog.cellsOf 25) = [.int .u64 x6] := e6
 simp only [s25] at e6
 have k6 : cs.drop 6 = .int .u64 x6 :: cs.drop 7 := drop_cons e6
 obtain ⟨ng7, yg7, g7⟩ := trod_fld Tryz.underlying30 h (i := 7) rfl
 obtain ⟨ng7_0, yg7_0, g7_0⟩ := trod_fld Tryz.underlying28 g7 (i := 0) rfl
 obtain ⟨x7, e7, _, w7⟩ := DataW.trod_int Tryz.underlying25 g7_0
 have e7 : (((cs.drop 7).take (Tryz.prog.cellsOf 28)).drop 0).take (Tryz.prog.cellsOf 25) = [.int .u64 x7] := e7
 simp only [s25, s28] at e7
 rw [sub_at cs 7 7 0 1 (by decide)] at e7
 have k7 : cs.drop 7 = .int .u64 x7 :: cs.drop 8 := drop_cons e7
 obtain ⟨ng7_1, yg7_1, g7_1⟩ := trod_fld Tryz.underlying28 g7 (i := 1) rfl
 obtain ⟨x8, e8, _, w8⟩ := DataW.trod_int Tryz.underlying25 g7_1
 have e8 : (((cs.drop 7).take (Tryz.prog.cellsOf 28)).drop 1).take (Tryz.prog.cellsOf 25) = [.int .u64 x8] := e8
 simp only [s25, s28] at e8
 rw [sub_at cs 7 7 1 1 (by decide)] at e8
 have k8 : cs.drop 8 = .int .u64 x8 :: cs.drop 9 := drop_cons e8
 obtain ⟨ng7_2, yg7_2, g7_2⟩ := trod_fld Tryz.underlying28 g7 (i := 2) rfl
 obtain ⟨x9, e9, _, w9⟩ := DataW.trod_int Tryz.underlying3 g7_2
 have e9 : (((cs.drop 7).take (Tryz.prog.cellsOf 28)).drop 2).take (Tryz.prog.cellsOf 3) = [.int .i64 x9] := e9
 simp only [s3, s28] at e9
 rw [sub_at cs 7 7 2 1 (by decide)] at e9
 have k9 : cs.drop 9 = .int .i64 x9 :: cs.drop 10 := drop_cons e9
 obtain ⟨ng7_3, yg7_3, g7_3⟩ := trod_fld Tryz.underlying28 g7 (i := 3) rfl
 obtain ⟨x10, e10, _, w10⟩ := DataW.trod_int Tryz.underlying3 g7_3
 have e10 : (((cs.drop 7).take (Tryz.prog.cellsOf 28)).drop 3).take (Tryz.prog.cellsOf 3) = [.int .i64 x10] := e10
 simp only [s3, s28] at e10
 rw [sub_at cs 7 7 3 1 (by decide)] at e10
 have k10 : cs.drop 10 = .int .i64 x10 :: cs.drop 11 := drop_cons e10
 obtain ⟨ng7_4, yg7_4, g7_4⟩ := trod_fld Tryz.underlying28 g7 (i := 4) rfl
 obtain ⟨x11, e11, _, w11⟩ := DataW.trod_int Tryz.underlying3 g7_4
 have e11 : (((cs.drop 7).take (Tryz.prog.cellsOf 28)).drop 4).take (Tryz.prog.cellsOf 3) = [.int .i64 x11] := e11
 simp only [s3, s28] at e11
 rw [sub_at cs 7 7 4 1 (by decide)] at e11
 have k11 : cs.drop 11 = .int .i64 x11 :: cs.drop 12 := drop_cons e11
 obtain ⟨ng7_5, yg7_5, g7_5⟩ := trod_fld Tryz.underlying28 g7 (i := 5) rfl
 obtain ⟨x12, e12, _, w12⟩ := DataW.trod_int Tryz.underlying3 g7_5
 have e12 : (((cs.drop 7).take (Tryz.prog.cellsOf 28)).drop 5).take (Tryz.prog.cellsOf 3) = [.int .i64 x12] := e12
 simp only [s3, s28] at e12
 rw [sub_at cs 7 7 5 1 (by decide)] at e12
 have k12 : cs.drop 12 = .int .i64 x12 :: cs.drop 13 := drop_cons e12
 obtain ⟨ng7_6, yg7_6, g7_6⟩ := trod_fld Tryz.underlying28 g7 (i := 6) rfl
 obtain ⟨x13, e13, _, w13⟩ := DataW.trod_int Tryz.underlying26 g7_6
 have e13 : (((cs.drop 7).take (Tryz.prog.cellsOf 28)).drop 6).take (Tryz.prog.cellsOf 26) = [.int .u32 x13] := e13
 simp only [s26, s28] at e13
 rw [sub_at cs 7 7 6 1 (by decide)] at e13
 have k13 : cs.drop 13 = .int .u32 x13 :: cs.drop 14 := drop_cons e13
 exact ⟨x0, oa1, en1, l1, c1, x2, x3, x4, x5, x6, x7, x8, x9, x10, x11, x12, x13, (List.drop_zero (l := cs)).symm.trans (k0.trans (congrArg (List.cons _) (k1.trans (congrArg (List.cons _) (k2.trans (congrArg (List.cons _) (k3.trans (congrArg (List.cons _) (k4.trans (congrArg (List.cons _) (k5.trans (congrArg (List.cons _) (k6.trans (congrArg (List.cons _) (k7.trans (congrArg (List.cons _) (k8.trans (congrArg (List.cons _) (k9.trans (congrArg (List.cons _) (k10.trans (congrArg (List.cons _) (k11.trans (congrArg (List.cons _) (k12.trans (congrArg (List.cons _) (k13.trans (congrArg (List.cons _) (List.drop_eq_nil_of_le (by omega)))))))))))))))))))))))))))))), w0, w2, w3, w4, w5, w6, w7, w8, w9, w10, w11, w12, w13, ha1, ho1, hb1, hg1, trivial⟩
end Go.Proofs.YtelmlkdibcdebaaGreat
end
section
set_option linter.unusedVariables false
set_option maxRecDepth 20000
set_option maxHeartbeats 2000000
namespace Go.Proofs.YtelmlkdibcdebaaGreat
theorem xl_next {N : Nat} {m : XM} {x : PX} (h : PXIs N m x) : Spec Tryz.prog 20 [ptrP m.p] (pxH m x) (fun r H' => ∃ m', r = .tuple #[xvV (hdX x.E), .bool (!x.E.isEmpty)] ∧ H' = pxH m' x.nx ∧ PXIs N m' x.nx ∧ m'.p = m.p) := by
 cases hE : x.E with
 | nil =>
  have hX : x.nx = x := by unfold PX.nx; rw [hE]; show { x with E := [] } = x; rw [← hE]
  rw [hX]
  refine (pre1 (R := [pxM m, pxV m x, pxQ m] ++ (ssH x.S ++ (balH m.bm ++ poolsH m.pm x.P))) (xnext_none m x hE)).mono ?_
  rintro r H' ⟨h1, h2⟩
  exact ⟨m, h1, h2, h, rfl⟩
 | cons v q =>
  refine Spec.re ((((xnext_some m x h.eO hE).fr ([pxM m, pxQ m] ++ (ssH x.S ++ (balH m.bm ++ poolsH m.pm x.P)))).perm (List.Perm.cons _ (List.Perm.swap _ _ _))).mono ?_)
  rintro r H' ⟨H1, ⟨ek, ec, epre, hr, rfl, hO⟩, rfl⟩
  exact ⟨pxH { m with ek := ek, ec := ec, epre := epre } x.nx, List.Perm.cons _ (List.Perm.swap _ _ _), _, hr, rfl, ⟨h.bal, h.len, h.po, h.oq, h.mp, hO, h.ok, h.seed, h.num, h.vl, h.now⟩, rfl⟩
theorem xl_state {N : Nat} {m : XM} {x : PX} (h : PXIs N m x) (n : Int) : Spec Tryz.prog 18 [ptrP m.p, .int .i64 n] (pxH m x) (fun r H' => r = .tuple #[.int .i64 (x.stX n).1, .int .i64 (x.stX n).2.1, .int .i64 (x.stX n).2.2] ∧ H' = pxH m x) := by
 by_cases hin : n ∈ x.S.map (·.num)
 ·obtain ⟨s, hs, rfl⟩ := List.mem_map.1 hin
  have hnd : (x.S.map (·.num)).Nodup := by rw [← sesM_keys]; exact h.mp.nodup
  have hX : x.stX s.num = (s.st, s.be, s.cn) := by unfold PX.stX; rw [find_num hnd hs]
  obtain ⟨A, B, hS⟩ := List.append_of_mem hs
  have hperm : (ssH x.S).Perm (seE s :: ssH (A ++ B)) := by rw [hS]; exact ssH_split A B s
  rw [hX]
  refine Spec.re ((((xstate_in m x h.mp s (List.mem_map_of_mem (f := fun s : Ss => (s.num, s.p)) hs)).fr _).perm (px_perm5 hperm)).mono ?_)
  rintro r H' ⟨H1, ⟨hr, rfl⟩, rfl⟩
  exact ⟨pxH m x, (px_perm5 hperm).symm, hr, rfl⟩
 ·have hX : x.stX n = (0, -1, -1) := by unfold PX.stX; rw [find_out hin]
  rw [hX]
  exact pre2 (R := [pxV m x, pxQ m] ++ (ssH x.S ++ (balH m.bm ++ poolsH m.pm x.P))) (xstate_out m x h.mp n (by rw [sesM_keys]; exact hin))
theorem lis_ok {N : Nat} {m : XM} {x : PX} (h : PXIs N m x) (n st be cn : Int) : Spec Tryz.prog 21 [ptrP m.p, .int .i64 n, .int .i64 st, .int .i64 be, .int .i64 cn] (pxH m x) (fun r H' => r = .bool (decide (x.stX n = (st, be, cn))) ∧ H' = pxH m x) := by
 have key : (x.stX n = (st, be, cn)) ↔ (x.stX n).1 = st ∧ (x.stX n).2.1 = be ∧ (x.stX n).2.2 = cn := by
  rcases x.stX n with ⟨a, b, c⟩
  simp
 rw [decide_eq_decide.2 key]
 refine Spec.of (E := [(0, ptrP m.p), (1, .int .i64 n), (2, .int .i64 st), (3, .int .i64 be), (4, .int .i64 cn)]) Tryz.func21 rfl (by kernel_rfl) Tryz.ntmps21 rfl rfl (fun w => ?_)
 refine WC_seq (WC_region (WLa rfl (WL_nil (WQ_code (WC_seq (WC_region (WLa rfl (WLa rfl ?_))))))))
 refine WL_do rfl rfl rfl (D_call (xl_state h n) rfl rfl rfl rfl (pqD)) ?_
 rintro _ _ ⟨_, ⟨rfl, rfl⟩, rfl⟩
 refine WLa rfl (WLa rfl (WLa rfl (WLa rfl (WLa rfl (WLa rfl (WLa rfl (WL_nil (WQ_code (WC_seq (WC_region (WLa rfl (WLa rfl ?_))))))))))))
 refine WL_val rfl rfl rfl (R_eql rfl rfl rfl) ?_
 refine WLa rfl ?_
 refine WL_splitD (s := 24) rfl (fun c1 => ?_) (fun c1 => ?_)
 ·have hg1 := c1
  refine WLa rfl (WLa rfl ?_)
  refine WL_val rfl rfl rfl (R_eql rfl rfl rfl) ?_
  refine WLa rfl (WLa rfl ?_)
  refine WL_splitD (s := 29) rfl (fun c2 => ?_) (fun c2 => ?_)
  ·have hg2 := c2
   refine WLa rfl (WLa rfl ?_)
   refine WL_val rfl rfl rfl (R_eql rfl rfl rfl) ?_
   refine WLa rfl (WLa rfl (WL_nil (WQ_code (WC_ret ?_))))
   refine WQ_ret rfl rfl (.cons (.tmp rfl) .nil) rfl (by
     first | exact ⟨congrArg Value.bool (decide_eq_decide.2 (by omega)), rfl⟩ | exact ⟨congrArg Value.bool (decide_eq_false (by omega)).symm, rfl⟩ | exact ⟨congrArg Value.bool (by simp_all), rfl⟩) (pqD)
  ·have hg2 := c2
   refine WL_skip rfl rfl rfl ?_
   refine WL_skip rfl rfl rfl ?_
   refine WL_skip rfl rfl rfl ?_
   refine WLa rfl (WLa rfl (WL_nil (WQ_code (WC_ret ?_))))
   refine WQ_ret rfl rfl (.cons (.tmp rfl) .nil) rfl (by
     first | exact ⟨congrArg Value.bool (decide_eq_decide.2 (by omega)), rfl⟩ | exact ⟨congrArg Value.bool (decide_eq_false (by omega)).symm, rfl⟩ | exact ⟨congrArg Value.bool (by simp_all), rfl⟩) (pqD)
 ·have hg1 := c1
  refine WL_skip rfl rfl rfl ?_
  refine WL_skip rfl rfl rfl ?_
  refine WL_skip rfl rfl rfl ?_
  refine WLa rfl (WLa rfl ?_)
  refine WL_skip rfl rfl rfl ?_
  refine WL_skip rfl rfl rfl ?_
  refine WL_skip rfl rfl rfl ?_
  refine WLa rfl (WLa rfl (WL_nil (WQ_code (WC_ret ?_))))
  refine WQ_ret rfl rfl (.cons (.tmp rfl) .nil) rfl (by
    first | exact ⟨congrArg Value.bool (decide_eq_decide.2 (by omega)), rfl⟩ | exact ⟨congrArg Value.bool (decide_eq_false (by omega)).symm, rfl⟩ | exact ⟨congrArg Value.bool (by simp_all), rfl⟩) (pqD)
theorem ltells_ok {N : Nat} {m : XM} {x : PX} (h : PXIs N m x) {k s b c e : Int} {r : List Xv} (hE : x.E = ⟨k, s, b, c, e⟩ :: r) : Spec Tryz.prog 25 [ptrP m.p, .int .i64 k, .int .i64 s, .int .i64 b, .int .i64 c, .int .i64 e] (pxH m x) (fun r H' => ∃ m', r = .bool true ∧ H' = pxH m' x.nx ∧ PXIs N m' x.nx ∧ m'.p = m.p) := by
 refine Spec.of (E := [(0, ptrP m.p), (1, .int .i64 k), (2, .int .i64 s), (3, .int .i64 b), (4, .int .i64 c), (5, .int .i64 e)]) Tryz.func25 rfl (by kernel_rfl) Tryz.ntmps25 rfl rfl (fun w => ?_)
 refine WC_seq (WC_region (WLa rfl (WL_nil (WQ_code (WC_seq (WC_region (WLa rfl ?_)))))))
 refine WL_do rfl rfl rfl (D_call (xl_next h) rfl rfl rfl rfl (pqD)) ?_
 rintro _ _ ⟨_, ⟨m1, rfl, rfl, h1, hp1⟩, rfl⟩
 rw [hE]
 refine WLa rfl (WLa rfl (WLa rfl ?_))
 refine WL_do rfl rfl rfl (D_alloc rfl zv63) ?_
 rintro _ _ ⟨b1, rfl, rfl⟩
 refine WL_do0 rfl rfl (D_store (vs := [_, _, _, _, _]) rfl Tryz.sizeOf63 rfl rfl rfl rfl rfl (plD) (Nat.le_of_ble_eq_true rfl)) ?_
 rintro _ _ rfl
 refine WLa rfl ?_
 refine WL_set (s := 14) (v := .bool true) rfl (by rfl) ?_
 refine WL_nil (WQ_code (WC_seq (WC_region (WLa rfl (WLa rfl ?_)))))
 refine WL_val rfl rfl rfl (R_loadA (vs := [_, _, _, _, _]) rfl ag63 rfl (mmD) rfl (atZ)) ?_
 refine WLa rfl (WLa rfl (WLa rfl (WLa rfl (WLa rfl ?_))))
 refine WL_val rfl rfl rfl (R_build rfl zv63 pl63 rfl rfl) ?_
 refine WL_val rfl rfl rfl (R_seq63 rfl rfl rfl rfl) ?_
 refine WLa rfl ?_
 refine WL_set (s := 30) (v := .bool true) rfl (by exact congrArg Value.bool (by simp [hdX])) ?_
 refine WLa rfl (WL_nil (WQ_code (WC_ret ?_)))
 refine WQ_ret rfl rfl (.cons (.tmp rfl) .nil) rfl (by
   exact ⟨m1, rfl, rfl, h1, hp1⟩) (pqD)
theorem lsett_ok : Spec Tryz.prog 24 [] [] (fun r H' => ∃ b, r = .agg (xsetL 1 (some ⟨b, 0, none⟩) 2 2 1 100 1 1 18446744073709551615 ⟨5, 5, 1, 1, 2, 0, 0⟩).toArray ∧ H' = [⟨some b, cl (ivs [1, 1]) 3⟩]) := by
 refine Spec.of (E := []) Tryz.func24 rfl (by kernel_rfl) Tryz.ntmps24 rfl rfl (fun w => ?_)
 refine WC_seq (WC_region ?_)
 refine WL_do rfl rfl rfl (D_alloc rfl zv30) ?_
 rintro _ _ ⟨b1, rfl, rfl⟩
 refine WL_nil (WQ_code (WC_seq (WC_region ?_)))
 refine WL_do rfl rfl rfl (D_buildSlice rfl si23 rfl rfl rfl) ?_
 rintro _ _ ⟨b2, rfl, rfl⟩
 refine WL_val rfl rfl rfl (R_build rfl zv28 pl28 rfl rfl) ?_
 refine WL_val rfl rfl rfl (R_build rfl zv30 pl30 rfl rfl) ?_
 refine WL_do0 rfl rfl (D_store (vs := [_, _, _, _, _, _, _, _, _, _, _, _, _, _]) rfl Tryz.sizeOf30 rfl rfl rfl rfl rfl (plD) (Nat.le_of_ble_eq_true rfl)) ?_
 rintro _ _ rfl
 refine WL_nil (WQ_code (WC_ret ?_))
 refine WQ_ret rfl rfl (.cons (.cell (vs := [_, _, _, _, _, _, _, _, _, _, _, _, _, _]) rfl ag30 (mmD) rfl (atZ)) .nil) rfl (by
   exact ⟨b2, rfl, rfl⟩) (pqD)
theorem PXO.new {k : Nat} {W : List Int} {limit : Int} {brk : Nat} {op idle : Int} {keep : Nat} {p : Plan} (hp : OkP p) (hq : POk op idle keep) : PXO 0 0 0 (px0 k W limit brk op idle keep p) := by
 have hC : ∀ x ∈ (PS.new op.toNat idle.toNat keep).C, x.st = 0 := fun x hx => by rw [List.eq_of_mem_replicate hx]
 refine ⟨⟨Nat.le_refl _, List.nodup_nil, fun s hs => (by cases hs), fun s hs => (by cases hs), fun i si hi => ?_⟩, ?_, fun si hs => ?_, Nat.le_refl _, ?_⟩
 ·have := List.mem_of_getElem? hi
  rw [List.eq_of_mem_replicate this]
  exact ⟨ph_new (by obtain ⟨a, b, c⟩ := hq; omega) (by obtain ⟨a, b, c⟩ := hq; omega), Nat.le_refl _, List.nodup_nil, fun e he => (by cases he), fun w hw => (by cases hw), fun c x hx hs => absurd (hC x (List.mem_of_getElem? hx)) (by rw [hs]; decide)⟩
 ·show ((List.replicate W.length (PS.new op.toNat idle.toNat keep)).map wt).sum + 0 ≤ 0
  rw [List.map_replicate, wt_new]
  simp
 ·rw [List.eq_of_mem_replicate hs]; exact ⟨rfl, Nat.le_refl _⟩
 ·obtain ⟨q1, q2, q3, q4, q5, q6, q7, q8, q9, q10⟩ := hp; exact q8
end Go.Proofs.YtelmlkdibcdebaaGreat
end
section
set_option linter.unusedVariables false
set_option maxRecDepth 20000
set_option maxHeartbeats 1000000
namespace Go.Proofs.YtelmlkdibcdebaaGreat
theorem adv_evalP {s s1 : PS} {now : Nat} {L : List Qp} {O : List Int} (hm : s.may true now = 0) (hl : s.Q.filter (fun x => decide (x.dl ≤ now)) = L) (hl1 : L.length ≤ 1) (h1 : L.foldl PS.tmo (s.at_ now) = s1) (ho : (allI 3 s1.C).filter (fun a => !young s1 now a) = O) (ho1 : O.length ≤ 1) : s.advance now = O.foldl PS.shut s1 := by
 have e1 : s.late now = L := by
  unfold PS.late
  rw [hl]
  match L, hl1 with
  | [], _ => simp
  | [x], _ => simp
 have e2 : s.adv1 now = s1 := by unfold PS.adv1; rw [e1, h1]
 have e3 : s1.old now = O := by
  unfold PS.old
  rw [ho]
  match O, ho1 with
  | [], _ => simp
  | [x], _ => simp
 rw [adv_ok hm, e2, e3]
theorem adv2_eval {x : PX} {now : Nat} {q0 q1 r0 r1 : PS} (hP : x.P = [q0, q1]) (h0 : q0.advance now = r0) (h1 : q1.advance now = r1) {y1 y2 : PX} (e1 : PX.drain { x with now := now, P := [r0, q1] } 0 = y1) (hy : y1.P[1]? = some q1) (e2 : PX.drain { y1 with P := y1.P.set 1 r1 } 1 = y2) {D : List Ss} (hD : y2.S.filter (fun s => decide (s.st = 1 ∧ s.til ≤ y2.now)) = D) (hl : D.length ≤ 1) : x.adv now = D.foldl (PX.dueF now) y2 := by
 have a1 : PX.advP now { x with now := now } 0 = y1 := by
  unfold PX.advP
  show (match x.P[0]? with | none => _ | some si => _) = _
  rw [hP]
  show PX.drain { x with now := now, P := [q0.advance now, q1] } 0 = y1
  rw [h0]; exact e1
 have a2 : PX.advP now y1 1 = y2 := by
  unfold PX.advP
  rw [hy]
  dsimp only
  rw [h1]; exact e2
 have a3 : x.advK now x.P.length = y2 := by
  have : x.P.length = 2 := by rw [hP]; rfl
  rw [this]
  show PX.advP now (PX.advP now { x with now := now } 0) 1 = y2
  rw [a1, a2]
 have a4 : y2.due = D := by
  unfold PX.due
  rw [hD]
  match D, hl with
  | [], _ => simp
  | [x], _ => simp
 unfold PX.adv
 rw [a3, a4]
abbrev kb : ByteArray := ⟨#[107]⟩
abbrev kpl : Plan := ⟨5, 5, 1, 1, 2, 0, 0⟩
abbrev kv (act : Int) (last : Nat) (gen st : Int) (opened : Nat) : Vw := (1, 0, act, true, ⟨1, 1, 100, last, gen, st, opened, 0, 0, 0⟩)
abbrev kq (now : Nat) (x : Cn) (Q : List Qp) (n : Nat) : PS := ⟨1, 1, 18446744073709551615, now, x :: List.replicate 63 ⟨0, 0, 0⟩, Q, n, []⟩
abbrev kx0 : PX := ⟨⟨1, [kv 0 0 0 0 0, kv 0 0 0 0 0], 0, 0, 0, []⟩, [kq 0 ⟨0, 0, 0⟩ [] 0, kq 0 ⟨0, 0, 0⟩ [] 0], kpl, 0, [], []⟩
abbrev kx1 (p : Nat) : PX := ⟨⟨1, [kv 1 0 0 0 0, kv 0 0 0 0 0], 1, 1, 0, [(1, (0, 0))]⟩, [kq 0 ⟨1, 7, 0⟩ [] 0, kq 0 ⟨0, 0, 0⟩ [] 0], kpl, 0, [⟨7, kb, 50, 0, 3, 0, 1, 0, 0, p⟩], [⟨2, 7, 0, 0, 0⟩]⟩
abbrev kx2 (p : Nat) : PX := ⟨⟨1, [kv 1 0 0 0 0, kv 0 0 0 0 0], 1, 1, 0, [(1, (0, 0))]⟩, [kq 0 ⟨1, 7, 0⟩ [] 0, kq 0 ⟨0, 0, 0⟩ [] 0], kpl, 0, [⟨7, kb, 50, 0, 3, 0, 1, 0, 0, p⟩], []⟩
abbrev kx3 (p : Nat) : PX := ⟨⟨1, [kv 1 0 0 0 0, kv 0 0 0 0 0], 1, 1, 0, [(1, (0, 0))]⟩, [kq 1 ⟨2, 0, 0⟩ [] 0, kq 0 ⟨0, 0, 0⟩ [] 0], kpl, 1, [⟨7, kb, 50, 0, 4, 0, 1, 0, 0, p⟩], [⟨1, 7, 0, 0, 0⟩]⟩
abbrev kx4 (p : Nat) : PX := ⟨⟨1, [kv 1 0 0 0 0, kv 0 0 0 0 0], 1, 1, 0, [(1, (0, 0))]⟩, [kq 1 ⟨2, 0, 0⟩ [] 0, kq 0 ⟨0, 0, 0⟩ [] 0], kpl, 1, [⟨7, kb, 50, 0, 4, 0, 1, 0, 0, p⟩], []⟩
abbrev kx5 (p q : Nat) : PX := ⟨⟨1, [kv 1 0 0 0 0, kv 1 1 0 0 0], 0, 2, 1, [(2, (1, 0)), (1, (0, 0))]⟩, [kq 1 ⟨2, 0, 0⟩ [] 0, kq 1 ⟨1, 8, 0⟩ [] 0], kpl, 1, [⟨7, kb, 50, 0, 4, 0, 1, 0, 0, p⟩, ⟨8, kb, 50, 0, 3, 0, 2, 1, 0, q⟩], [⟨2, 8, 1, 0, 0⟩]⟩
abbrev kx6 (p q : Nat) : PX := ⟨⟨1, [kv 1 0 0 0 0, kv 1 1 0 0 0], 0, 2, 1, [(2, (1, 0)), (1, (0, 0))]⟩, [kq 1 ⟨2, 0, 0⟩ [] 0, kq 1 ⟨1, 8, 0⟩ [] 0], kpl, 1, [⟨7, kb, 50, 0, 4, 0, 1, 0, 0, p⟩, ⟨8, kb, 50, 0, 3, 0, 2, 1, 0, q⟩], []⟩
abbrev kx7 (p q : Nat) : PX := ⟨⟨1, [kv 1 0 0 0 0, kv 0 2 1 1 2], 0, 2, 2, [(1, (0, 0))]⟩, [kq 1 ⟨2, 0, 0⟩ [] 0, kq 2 ⟨0, 0, 0⟩ [] 0], kpl, 2, [⟨7, kb, 50, 0, 4, 0, 1, 0, 0, p⟩, ⟨8, kb, 50, 1, 1, 7, 0, -1, -1, q⟩], []⟩
abbrev kx8 (p q : Nat) : PX := ⟨⟨1, [kv 2 7 0 0 0, kv 0 2 1 1 2], 1, 3, 7, [(3, (0, 0)), (1, (0, 0))]⟩, [kq 7 ⟨2, 0, 0⟩ [⟨1, 8, 50⟩] 1, kq 7 ⟨0, 0, 0⟩ [] 0], kpl, 7, [⟨7, kb, 50, 0, 4, 0, 1, 0, 0, p⟩, ⟨8, kb, 50, 1, 2, 7, 3, 0, -1, q⟩], []⟩
abbrev kx9 (q : Nat) : PX := ⟨⟨1, [kv 1 8 0 0 0, kv 0 2 1 1 2], 1, 3, 8, [(3, (0, 0))]⟩, [kq 8 ⟨2, 0, 0⟩ [] 1, kq 7 ⟨0, 0, 0⟩ [] 0], kpl, 8, [⟨8, kb, 50, 1, 4, 7, 3, 0, 0, q⟩], [⟨1, 8, 0, 0, 0⟩]⟩
abbrev kx10 (q : Nat) : PX := ⟨⟨1, [kv 1 8 0 0 0, kv 0 2 1 1 2], 1, 3, 8, [(3, (0, 0))]⟩, [kq 8 ⟨2, 0, 0⟩ [] 1, kq 7 ⟨0, 0, 0⟩ [] 0], kpl, 8, [⟨8, kb, 50, 1, 4, 7, 3, 0, 0, q⟩], []⟩
abbrev kx11 (q r : Nat) : PX := ⟨⟨1, [kv 2 8 0 0 0, kv 0 2 1 1 2], 1, 4, 8, [(4, (0, 0)), (3, (0, 0))]⟩, [kq 8 ⟨2, 0, 0⟩ [⟨2, 9, 20⟩] 2, kq 7 ⟨0, 0, 0⟩ [] 0], kpl, 8, [⟨8, kb, 50, 1, 4, 7, 3, 0, 0, q⟩, ⟨9, kb, 20, 0, 2, 0, 4, 0, -1, r⟩], []⟩
abbrev kx12 (q : Nat) : PX := ⟨⟨1, [kv 1 20 0 0 0, kv 0 2 1 1 2], 1, 4, 20, [(3, (0, 0))]⟩, [kq 20 ⟨2, 0, 0⟩ [] 2, kq 20 ⟨0, 0, 0⟩ [] 0], kpl, 20, [⟨8, kb, 50, 1, 4, 7, 3, 0, 0, q⟩], [⟨3, 9, -1, -1, 12⟩]⟩
theorem kx0_eq : px0 1 [1, 1] 1 100 1 1 18446744073709551615 ⟨5, 5, 1, 1, 2, 0, 0⟩ = kx0 := by kernel_rfl
theorem kx1_eq (p : Nat) : kx0.begin 7 0 50 kb p = kx1 p := by kernel_rfl
theorem kx2_eq (p : Nat) : (kx1 p).nx = kx2 p := by kernel_rfl
theorem kx3_eq (p : Nat) : (kx2 p).dialX 7 true 1 = kx3 p := by kernel_rfl
theorem kx4_eq (p : Nat) : (kx3 p).nx = kx4 p := by kernel_rfl
theorem kx5_eq (p q : Nat) : (kx4 p).begin 8 1 50 kb q = kx5 p q := by kernel_rfl
theorem kx6_eq (p q : Nat) : (kx5 p q).nx = kx6 p q := by kernel_rfl
theorem kx7_eq (p q : Nat) : (kx6 p q).dialX 8 false 2 = kx7 p q := by kernel_rfl
theorem kx7_nx (p q : Nat) : (kx7 p q).nx = kx7 p q := by kernel_rfl
theorem kx9_eq (p q : Nat) : (kx8 p q).endX 7 true 8 = kx9 q := by kernel_rfl
theorem kx10_eq (q : Nat) : (kx9 q).nx = kx10 q := by kernel_rfl
theorem kx11_eq (q r : Nat) : (kx10 q).begin 9 8 20 kb r = kx11 q r := by kernel_rfl
theorem kq_adv (now : Nat) (h : now ≠ 18446744073709551615) (t n : Nat) (c : Cn) (ht : t ≤ now) (hc : c.st = 2 ∨ c.st = 0) : (kq t c [] n).advance now = kq now c [] n := by
 have ha : allI 3 (kq now c [] n).C = [] := by
  have : ∀ (m : Nat) (k : Nat), allF 3 k (List.replicate m ⟨0, 0, 0⟩) = [] := by
   intro m
   induction m with
   | zero => intro k; rfl
   | succ m ih => intro k; rw [List.replicate_succ, allF, if_neg (by decide)]; exact ih _
  show allF 3 0 (c :: List.replicate 63 ⟨0, 0, 0⟩) = []
  rw [allF, if_neg (by omega)]
  exact this 63 1
 rw [adv_evalP (L := []) (O := []) (s1 := kq now c [] n) (may_fine rfl (by show ¬ (now < t ∨ _); omega)) rfl (Nat.zero_le _) rfl (by rw [ha]; rfl) (Nat.zero_le _)]
 rfl
theorem kx8_eq (p q : Nat) : (kx7 p q).advX 7 = kx8 p q := by
 have h : (kx7 p q).advX 7 = (kx7 p q).adv 7 := by kernel_rfl
 rw [h]
 exact (adv2_eval (x := kx7 p q) rfl (kq_adv 7 (by decide) 1 0 ⟨2, 0, 0⟩ (by decide) (.inl rfl)) (kq_adv 7 (by decide) 2 0 ⟨0, 0, 0⟩ (by decide) (.inr rfl)) (y1 := { kx7 p q with now := 7, P := [kq 7 ⟨2, 0, 0⟩ [] 0, kq 2 ⟨0, 0, 0⟩ [] 0] }) (by kernel_rfl) rfl (y2 := { kx7 p q with now := 7, P := [kq 7 ⟨2, 0, 0⟩ [] 0, kq 7 ⟨0, 0, 0⟩ [] 0] }) (by kernel_rfl) (D := [⟨8, kb, 50, 1, 1, 7, 0, -1, -1, q⟩]) (by kernel_rfl) (Nat.le_refl _)).trans (by kernel_rfl)
theorem kx12_q : (kq 8 ⟨2, 0, 0⟩ [⟨2, 9, 20⟩] 2).advance 20 = { kq 20 ⟨2, 0, 0⟩ [] 2 with E := [⟨4, 9, -1⟩] } := by
 rw [adv_evalP (s := kq 8 ⟨2, 0, 0⟩ [⟨2, 9, 20⟩] 2) (s1 := { kq 20 ⟨2, 0, 0⟩ [] 2 with E := [⟨4, 9, -1⟩] }) (L := [⟨2, 9, 20⟩]) (O := []) (now := 20) (by kernel_rfl) (by kernel_rfl) (Nat.le_of_ble_eq_true rfl) (by kernel_rfl) (by kernel_rfl) (Nat.le_of_ble_eq_true rfl)]
 kernel_rfl
theorem kx12_eq (q r : Nat) : (kx11 q r).advX 20 = kx12 q := by
 have h : (kx11 q r).advX 20 = (kx11 q r).adv 20 := by kernel_rfl
 rw [h]
 exact (adv2_eval (x := kx11 q r) rfl kx12_q (kq_adv 20 (by decide) 7 0 ⟨0, 0, 0⟩ (by decide) (.inr rfl)) (y1 := { kx12 q with P := [kq 20 ⟨2, 0, 0⟩ [] 2, kq 7 ⟨0, 0, 0⟩ [] 0] }) (by kernel_rfl) (by kernel_rfl) (y2 := kx12 q) (by kernel_rfl) (D := []) (by kernel_rfl) (Nat.zero_le _)).trans rfl
end Go.Proofs.YtelmlkdibcdebaaGreat
end
section
set_option linter.unusedVariables false
set_option maxRecDepth 20000
set_option maxHeartbeats 1000000
namespace Go.Proofs.YtelmlkdibcdebaaGreat
def pxK (m : XM) (x : PX) : Heap := pxH m x
theorem xm_begin {N : Nat} {m : XM} {x : PX} {w b e : Nat} (h : PXIs N m x) (o : PXO w b e x) (hN : N ≤ 8000) (hE : e ≤ 10000) (hB : b ≤ 1000000) (n : Int) (now dl : Nat) (hb : now ≤ 18446744073709551615) (key : ByteArray) :
  Spec Tryz.prog 12 [ptrP m.p, .int .i64 n, .int .u64 (now : Int), .int .u64 (dl : Int), .string key] (pxK m x) (fun r H' => ∃ m' x', r = .int .i64 (x.begE n now dl key) ∧ H' = pxK m' x' ∧ PXIs (N + 1) m' x' ∧ m'.p = m.p ∧ PXO (w + 1) (b + 1) (e + 1) x' ∧ ((x.begE n now dl key ≠ 0 ∧ x' = x) ∨ (x.begE n now dl key = 0 ∧ ∃ p, x' = x.begin n now dl key p))) := by
 unfold pxK; apply xl_begin <;> assumption
theorem xm_dialed {N : Nat} {m : XM} {x : PX} {w b e : Nat} (h : PXIs N m x) (o : PXO w b e x) (hN : N ≤ 7000) (hE : e ≤ 10000) (n : Int) (good : Bool) (now : Nat) (hb : now ≤ 18446744073709551615) :
  Spec Tryz.prog 13 [ptrP m.p, .int .i64 n, .bool good, .int .u64 (now : Int)] (pxK m x) (fun r H' => ∃ m', r = .int .i64 (x.inX n 3 now) ∧ H' = pxK m' (x.dialX n good now) ∧ PXIs (N + 21) m' (x.dialX n good now) ∧ m'.p = m.p ∧ PXO (w + 1) (b + 1) (e + 3) (x.dialX n good now)) := by
 unfold pxK; apply xl_dialed <;> assumption
theorem xm_end {N : Nat} {m : XM} {x : PX} {w b e : Nat} (h : PXIs N m x) (o : PXO w b e x) (hN : N ≤ 7000) (hE : e ≤ 10000) (n : Int) (good : Bool) (now : Nat) (hb : now ≤ 18446744073709551615) :
  Spec Tryz.prog 14 [ptrP m.p, .int .i64 n, .bool good, .int .u64 (now : Int)] (pxK m x) (fun r H' => ∃ m', r = .int .i64 (x.inX n 4 now) ∧ H' = pxK m' (x.endX n good now) ∧ PXIs (N + 21) m' (x.endX n good now) ∧ m'.p = m.p ∧ PXO (w + 1) (b + 1) (e + 3) (x.endX n good now)) := by
 unfold pxK; apply xl_end <;> assumption
theorem xm_adv {N : Nat} {m : XM} {x : PX} {w b e : Nat} (h : PXIs N m x) (o : PXO w b e x) (hN : N ≤ 7000) (hw : w ≤ 57) (hE : e ≤ 10000) (hB : b ≤ 1000000) (hP : x.P.length ≤ 100) (now : Nat) (hb : now ≤ 18446744073709551615) :
  Spec Tryz.prog 15 [ptrP m.p, .int .u64 (now : Int)] (pxK m x) (fun r H' => ∃ m', r = .int .i64 (x.may true now) ∧ H' = pxK m' (x.advX now) ∧ PXIs (N + w + 101) m' (x.advX now) ∧ m'.p = m.p ∧ PXO w (b + 102) (e + w + 101) (x.advX now)) := by
 unfold pxK; apply xl_adv <;> assumption
theorem xm_next {N : Nat} {m : XM} {x : PX} (h : PXIs N m x) : Spec Tryz.prog 20 [ptrP m.p] (pxK m x) (fun r H' => ∃ m', r = .tuple #[xvV (hdX x.E), .bool (!x.E.isEmpty)] ∧ H' = pxK m' x.nx ∧ PXIs N m' x.nx ∧ m'.p = m.p) := by
 unfold pxK; apply xl_next <;> assumption
theorem mis_ok {N : Nat} {m : XM} {x : PX} (h : PXIs N m x) (n st be cn : Int) : Spec Tryz.prog 21 [ptrP m.p, .int .i64 n, .int .i64 st, .int .i64 be, .int .i64 cn] (pxK m x) (fun r H' => r = .bool (decide (x.stX n = (st, be, cn))) ∧ H' = pxK m x) := by
 unfold pxK; apply lis_ok <;> assumption
theorem mtells_ok {N : Nat} {m : XM} {x : PX} (h : PXIs N m x) {k s b c e : Int} {r : List Xv} (hE : x.E = ⟨k, s, b, c, e⟩ :: r) : Spec Tryz.prog 25 [ptrP m.p, .int .i64 k, .int .i64 s, .int .i64 b, .int .i64 c, .int .i64 e] (pxK m x) (fun r H' => ∃ m', r = .bool true ∧ H' = pxK m' x.nx ∧ PXIs N m' x.nx ∧ m'.p = m.p) := by
 unfold pxK; apply ltells_ok <;> assumption
theorem xm_due {N : Nat} {m : XM} {x : PX} (h : PXIs N m x) (hn : (x.S.map (·.num)).Nodup) : Spec Tryz.prog 22 [ptrP m.p] (pxK m x) (fun r H' => r = .int .u64 (dueV x.S : Int) ∧ H' = pxK m x) := by
 unfold pxK; apply xdue_all <;> assumption
theorem xm_new (k : Nat) (W : List Int) (oa : Option Addr) (c : Nat) (ent : Ent) (ha : Rd oa ent W) (limit : Int) (brk : Nat) (op idle : Int) (keep : Nat) (p : Plan) (h : VOkB (k : Int) W limit brk) (hp : OkP p) (hq : POk op idle keep) (hsd : p.seed < 4294967296) (hkp : keep ≤ 18446744073709551615) : Spec Tryz.prog 9 [.agg (xsetL (k : Int) oa W.length c limit brk op idle keep p).toArray] [ent]
  (fun r H' => ∃ m, r = .tuple #[ptrP m.p, .int .i64 0] ∧ H' = ent :: pxK m (px0 k W limit brk op idle keep p) ∧ PXIs 0 m (px0 k W limit brk op idle keep p)) := by
 unfold pxK; apply xnew_ok <;> assumption
end Go.Proofs.YtelmlkdibcdebaaGreat
end
section
set_option linter.unusedVariables false
set_option maxRecDepth 20000
set_option maxHeartbeats 4000000
namespace Go.Proofs.YtelmlkdibcdebaaGreat
theorem known_ok : Spec Tryz.prog 8 [] [] (fun r H' => r = .bool true ∧ H' = []) := by
 refine Spec.of (E := []) Tryz.func8 rfl (by kernel_rfl) Tryz.ntmps8 rfl rfl (fun w => ?_)
 refine WC_seq (WC_region (WLa rfl (WL_nil (WQ_code (WC_seq (WC_region ?_))))))
 refine WL_do rfl rfl rfl (D_call (lsett_ok) rfl rfl rfl rfl (pqD)) ?_
 rintro _ _ ⟨_, ⟨ws, rfl, rfl⟩, rfl⟩
 refine WL_do rfl rfl rfl (D_call (xm_new 1 [1, 1] _ _ _ (Rd.own (e := 3) (own_lit _ [1, 1] (Nat.le_of_ble_eq_true rfl))) 1 100 1 1 18446744073709551615 ⟨5, 5, 1, 1, 2, 0, 0⟩ (by decide) (by decide) (by decide) (by decide) (Nat.le_refl _)) rfl rfl rfl rfl (pqD)) ?_
 rintro _ _ ⟨_, ⟨m0, rfl, rfl, g0⟩, rfl⟩
 rw [kx0_eq] at g0 ⊢
 have o0 : PXO 0 0 0 kx0 := kx0_eq ▸ PXO.new (by decide) (by decide)
 refine WLa rfl (WLa rfl (WLa rfl (WLa rfl (WLa rfl (WL_nil (WQ_code (WC_seq (WC_seq (WC_region (WLa rfl ?_))))))))))
 refine WL_val rfl rfl rfl (R_ptrEqNil rfl Tryz.underlying33 rfl) ?_
 refine WL_set (s := 11) (v := .bool false) rfl (by rfl) ?_
 refine WLa rfl (WLa rfl ?_)
 refine WL_val rfl rfl rfl (R_neq rfl rfl rfl) ?_
 refine WLa rfl (WLa rfl ?_)
 refine WL_set (s := 16) (v := .bool false) rfl (by simp) ?_
 refine WLa rfl ?_
 refine WL_do rfl rfl rfl (D_call (xm_begin g0 o0 (by omega) (by omega) (by omega) 7 0 50 (by omega) kb) rfl rfl rfl rfl (pqD)) ?_
 rintro _ _ ⟨_, ⟨m1, x1, rfl, rfl, g1, p1, o1, hx1⟩, rfl⟩
 obtain ⟨q1, rfl⟩ : ∃ p, x1 = (kx0).begin 7 0 50 kb p := by rcases hx1 with ⟨e, _⟩ | ⟨_, e⟩; exact absurd (by kernel_rfl) e; exact e
 rw [kx1_eq] at g1 o1 ⊢
 rw [← p1]
 rw [show (kx0).begE 7 0 50 kb = 0 from by kernel_rfl]
 refine WL_val rfl rfl rfl (R_neq rfl rfl rfl) ?_
 refine WLa rfl (WLa rfl ?_)
 refine WL_set (s := 21) (v := .bool false) rfl (by simp) ?_
 refine WLa rfl ?_
 refine WL_do rfl rfl rfl (D_call (mtells_ok g1 (r := []) rfl) rfl rfl rfl rfl (pqD)) ?_
 rintro _ _ ⟨_, ⟨m2, rfl, rfl, g2, p2⟩, rfl⟩
 rw [kx2_eq] at g2 ⊢
 rw [← p2]
 have o2 := o1.nx
 rw [kx2_eq] at o2
 refine WL_val rfl rfl rfl (R_not rfl rfl) ?_
 refine WLa rfl (WLa rfl (WLa rfl ?_))
 refine WL_do rfl rfl rfl (D_call (xm_dialed g2 o2 (by omega) (by omega) 7 true 1 (by omega)) rfl rfl rfl rfl (pqD)) ?_
 rintro _ _ ⟨_, ⟨m3, rfl, rfl, g3, p3, o3⟩, rfl⟩
 rw [kx3_eq] at g3 o3 ⊢
 rw [← p3]
 rw [show (kx2 q1).inX 7 3 1 = 0 from by kernel_rfl]
 refine WL_val rfl rfl rfl (R_neq rfl rfl rfl) ?_
 refine WLa rfl (WLa rfl ?_)
 refine WL_set (s := 31) (v := .bool false) rfl (by simp) ?_
 refine WLa rfl ?_
 refine WL_do rfl rfl rfl (D_call (mtells_ok g3 (r := []) rfl) rfl rfl rfl rfl (pqD)) ?_
 rintro _ _ ⟨_, ⟨m4, rfl, rfl, g4, p4⟩, rfl⟩
 rw [kx4_eq] at g4 ⊢
 rw [← p4]
 have o4 := o3.nx
 rw [kx4_eq] at o4
 refine WL_val rfl rfl rfl (R_not rfl rfl) ?_
 refine WLa rfl (WL_nil (WQ_code ?_))
 refine WC_F rfl ?_
 refine WC_skip (WQ_code (WC_seq (WC_seq (WC_region (WLa rfl ?_)))))
 refine WL_do rfl rfl rfl (D_call (xm_begin g4 o4 (by omega) (by omega) (by omega) 8 1 50 (by omega) kb) rfl rfl rfl rfl (pqD)) ?_
 rintro _ _ ⟨_, ⟨m5, x5, rfl, rfl, g5, p5, o5, hx5⟩, rfl⟩
 obtain ⟨q2, rfl⟩ : ∃ p, x5 = (kx4 q1).begin 8 1 50 kb p := by rcases hx5 with ⟨e, _⟩ | ⟨_, e⟩; exact absurd (by kernel_rfl) e; exact e
 rw [kx5_eq] at g5 o5 ⊢
 rw [← p5]
 rw [show (kx4 q1).begE 8 1 50 kb = 0 from by kernel_rfl]
 refine WL_val rfl rfl rfl (R_neq rfl rfl rfl) ?_
 refine WLa rfl ?_
 refine WL_set (s := 39) (v := .bool false) rfl (by simp) ?_
 refine WLa rfl ?_
 refine WL_do rfl rfl rfl (D_call (mtells_ok g5 (r := []) rfl) rfl rfl rfl rfl (pqD)) ?_
 rintro _ _ ⟨_, ⟨m6, rfl, rfl, g6, p6⟩, rfl⟩
 rw [kx6_eq] at g6 ⊢
 rw [← p6]
 have o6 := o5.nx
 rw [kx6_eq] at o6
 refine WL_val rfl rfl rfl (R_not rfl rfl) ?_
 refine WLa rfl (WLa rfl (WLa rfl ?_))
 refine WL_do rfl rfl rfl (D_call (xm_dialed g6 o6 (by omega) (by omega) 8 false 2 (by omega)) rfl rfl rfl rfl (pqD)) ?_
 rintro _ _ ⟨_, ⟨m7, rfl, rfl, g7, p7, o7⟩, rfl⟩
 rw [kx7_eq] at g7 o7 ⊢
 rw [← p7]
 rw [show (kx6 q1 q2).inX 8 3 2 = 0 from by kernel_rfl]
 refine WL_val rfl rfl rfl (R_neq rfl rfl rfl) ?_
 refine WLa rfl (WLa rfl ?_)
 refine WL_set (s := 49) (v := .bool false) rfl (by simp) ?_
 refine WLa rfl ?_
 refine WL_do rfl rfl rfl (D_call (mis_ok g7 8 1 (-1) (-1)) rfl rfl rfl rfl (pqD)) ?_
 rintro _ _ ⟨_, ⟨rfl, rfl⟩, rfl⟩
 refine WL_set (s := 51) (v := .bool true) rfl (by exact congrArg Value.bool (decide_eq_true (by kernel_rfl))) ?_
 refine WL_val rfl rfl rfl (R_not rfl rfl) ?_
 refine WLa rfl (WLa rfl (WLa rfl ?_))
 refine WL_do rfl rfl rfl (D_call (xm_due g7 o7.g.nd) rfl rfl rfl rfl (pqD)) ?_
 rintro _ _ ⟨_, ⟨rfl, rfl⟩, rfl⟩
 rw [show dueV (kx7 q1 q2).S = 7 from by kernel_rfl]
 refine WL_val rfl rfl rfl (R_neq rfl rfl rfl) ?_
 refine WLa rfl (WL_nil (WQ_code ?_))
 refine WC_dF rfl (by simp) ?_
 refine WC_skip (WQ_code (WC_seq (WC_seq (WC_region (WLa rfl ?_)))))
 refine WL_do rfl rfl rfl (D_call (xm_next g7) rfl rfl rfl rfl (pqD)) ?_
 rintro _ _ ⟨_, ⟨m8, rfl, rfl, g8, p8⟩, rfl⟩
 rw [kx7_nx] at g8 ⊢
 rw [← p8]
 refine WLa rfl (WLa rfl (WLa rfl ?_))
 refine WL_do rfl rfl rfl (D_alloc rfl zv63) ?_
 rintro _ _ ⟨b1, rfl, rfl⟩
 refine WL_do0 rfl rfl (D_store (vs := [_, _, _, _, _]) rfl Tryz.sizeOf63 rfl rfl rfl rfl rfl (plD) (Nat.le_of_ble_eq_true rfl)) ?_
 rintro _ _ rfl
 refine WLa rfl ?_
 refine WL_set (s := 4) (v := .bool false) rfl (by rfl) ?_
 refine WL_nil (WQ_code (WC_seq (WC_region (WLa rfl (WLa rfl (WLa rfl ?_))))))
 refine WL_do rfl rfl rfl (D_call (xm_adv g8 o7 (by omega) (by omega) (by omega) (by omega) (Nat.le_of_ble_eq_true rfl) 7 (by omega)) rfl rfl rfl rfl (pqD)) ?_
 rintro _ _ ⟨_, ⟨m9, rfl, rfl, g9, p9, o9⟩, rfl⟩
 rw [kx8_eq] at g9 o9 ⊢
 rw [← p9]
 rw [show (kx7 q1 q2).may true 7 = 0 from by kernel_rfl]
 refine WL_val rfl rfl rfl (R_neq rfl rfl rfl) ?_
 refine WLa rfl (WLa rfl ?_)
 refine WL_set (s := 70) (v := .bool false) rfl (by simp) ?_
 refine WLa rfl ?_
 refine WL_do rfl rfl rfl (D_call (mis_ok g9 8 2 0 (-1)) rfl rfl rfl rfl (pqD)) ?_
 rintro _ _ ⟨_, ⟨rfl, rfl⟩, rfl⟩
 refine WL_set (s := 72) (v := .bool true) rfl (by exact congrArg Value.bool (decide_eq_true (by kernel_rfl))) ?_
 refine WL_val rfl rfl rfl (R_not rfl rfl) ?_
 refine WLa rfl (WLa rfl (WLa rfl ?_))
 refine WL_do rfl rfl rfl (D_call (xm_end g9 o9 (by omega) (by omega) 7 true 8 (by omega)) rfl rfl rfl rfl (pqD)) ?_
 rintro _ _ ⟨_, ⟨m10, rfl, rfl, g10, p10, o10⟩, rfl⟩
 rw [kx9_eq] at g10 o10 ⊢
 rw [← p10]
 rw [show (kx8 q1 q2).inX 7 4 8 = 0 from by kernel_rfl]
 refine WL_val rfl rfl rfl (R_neq rfl rfl rfl) ?_
 refine WLa rfl (WLa rfl ?_)
 refine WL_set (s := 80) (v := .bool false) rfl (by simp) ?_
 refine WLa rfl ?_
 refine WL_do rfl rfl rfl (D_call (mtells_ok g10 (r := []) rfl) rfl rfl rfl rfl (pqD)) ?_
 rintro _ _ ⟨_, ⟨m11, rfl, rfl, g11, p11⟩, rfl⟩
 rw [kx10_eq] at g11 ⊢
 rw [← p11]
 have o11 := o10.nx
 rw [kx10_eq] at o11
 refine WL_val rfl rfl rfl (R_not rfl rfl) ?_
 refine WLa rfl (WL_nil (WQ_code ?_))
 refine WC_F rfl ?_
 refine WC_skip (WQ_code (WC_seq (WC_region (WLa rfl ?_))))
 refine WL_do rfl rfl rfl (D_call (xm_begin g11 o11 (by omega) (by omega) (by omega) 9 8 20 (by omega) kb) rfl rfl rfl rfl (pqD)) ?_
 rintro _ _ ⟨_, ⟨m12, x12, rfl, rfl, g12, p12, o12, hx12⟩, rfl⟩
 obtain ⟨q3, rfl⟩ : ∃ p, x12 = (kx10 q2).begin 9 8 20 kb p := by rcases hx12 with ⟨e, _⟩ | ⟨_, e⟩; exact absurd (by kernel_rfl) e; exact e
 rw [kx11_eq] at g12 o12 ⊢
 rw [← p12]
 rw [show (kx10 q2).begE 9 8 20 kb = 0 from by kernel_rfl]
 refine WL_val rfl rfl rfl (R_eql rfl rfl rfl) ?_
 refine WLa rfl ?_
 refine WL_set (s := 88) (v := .bool true) rfl (by simp) ?_
 refine WLa rfl ?_
 refine WL_do rfl rfl rfl (D_call (xm_adv g12 o12 (by omega) (by omega) (by omega) (by omega) (Nat.le_of_ble_eq_true rfl) 20 (by omega)) rfl rfl rfl rfl (pqD)) ?_
 rintro _ _ ⟨_, ⟨m13, rfl, rfl, g13, p13, o13⟩, rfl⟩
 rw [kx12_eq] at g13 o13 ⊢
 rw [← p13]
 rw [show (kx11 q2 q3).may true 20 = 0 from by kernel_rfl]
 refine WL_val rfl rfl rfl (R_eql rfl rfl rfl) ?_
 refine WLa rfl (WLa rfl ?_)
 refine WL_set (s := 93) (v := .bool true) rfl (by simp) ?_
 refine WLa rfl ?_
 refine WL_do rfl rfl rfl (D_call (mtells_ok g13 (r := []) rfl) rfl rfl rfl rfl (pqD)) ?_
 rintro _ _ ⟨_, ⟨m14, rfl, rfl, g14, p14⟩, rfl⟩
 refine WLa rfl (WLa rfl (WL_nil (WQ_code (WC_ret ?_))))
 refine WQ_ret rfl rfl (.cons (.tmp rfl) .nil) rfl (by
   exact ⟨rfl, rfl⟩) (pqD)
end Go.Proofs.YtelmlkdibcdebaaGreat
end
section
set_option linter.unusedVariables false
set_option maxRecDepth 20000
set_option maxHeartbeats 4000000
namespace Go.Proofs.YtelmlkdibcdebaaGreat
theorem mbeg_bad1 (k : Int) (W : List Int) (oa : Option Addr) (c : Nat) (ent : Ent) (ha : Rd oa ent W) (limit : Int) (brk : Nat) (op idle : Int) (keep : Nat) (p : Plan) (h : ¬ VOkB k W limit brk) : Spec Tryz.prog 10 [.agg (xsetL k oa W.length c limit brk op idle keep p).toArray] [ent] (fun r H' => r = .pointer none ∧ H' = [ent]) := by
 refine Spec.of (E := [(0, .agg (xsetL k oa W.length c limit brk op idle keep p).toArray)]) Tryz.func10 rfl (by kernel_rfl) Tryz.ntmps10 rfl rfl (fun w => ?_)
 refine WC_seq (WC_region ?_)
 refine WL_do rfl rfl rfl (D_box (cs := [_, _, _, _, _, _, _, _, _, _, _, _, _, _]) rfl rfl rfl) ?_
 rintro _ _ ⟨b1, rfl, rfl⟩
 refine WLa rfl (WL_nil (WQ_code (WC_seq (WC_region ?_))))
 refine WL_val rfl rfl rfl (R_fieldAddr rfl fa30_0 rfl) ?_
 refine WL_val rfl rfl rfl (R_load rfl sc22 rfl (mmD) rfl) ?_
 refine WL_val rfl rfl rfl (R_fieldAddr rfl fa30_1 rfl) ?_
 refine WL_val rfl rfl rfl (R_load rfl sc23 rfl (mmD) rfl) ?_
 refine WL_val rfl rfl rfl (R_fieldAddr rfl fa30_2 rfl) ?_
 refine WL_val rfl rfl rfl (R_load rfl sc3 rfl (mmD) rfl) ?_
 refine WL_val rfl rfl rfl (R_fieldAddr rfl fa30_3 rfl) ?_
 refine WL_val rfl rfl rfl (R_load rfl sc25 rfl (mmD) rfl) ?_
 refine WL_do rfl rfl rfl (D_call (xbnew_bad k W oa c ent ha limit brk h) rfl rfl rfl rfl (pqD)) ?_
 rintro _ _ ⟨_, ⟨rfl, rfl⟩, rfl⟩
 refine WLa rfl (WLa rfl (WLa rfl (WLa rfl (WLa rfl (WL_nil (WQ_code (WC_seq (WC_seq (WC_region (WLa rfl ?_))))))))))
 refine WL_val rfl rfl rfl (R_neq rfl rfl rfl) ?_
 refine WLa rfl ?_
 refine WL_set (s := 23) (v := .bool true) rfl (by rfl) ?_
 refine WL_skip rfl rfl rfl ?_
 refine WL_skip rfl rfl rfl ?_
 refine WL_skip rfl rfl rfl ?_
 refine WL_skip rfl rfl rfl ?_
 refine WLa rfl (WL_nil (WQ_code ?_))
 refine WC_T rfl ?_
 refine WC_seq (WC_region (WLa rfl (WL_nil (WQ_code (WC_ret ?_)))))
 refine WQ_ret rfl rfl (.cons (.tmp rfl) .nil) rfl (by
   exact ⟨rfl, rfl⟩) (pqD)
theorem mbeg_bad2 (k : Nat) (W : List Int) (oa : Option Addr) (c : Nat) (ent : Ent) (ha : Rd oa ent W) (limit : Int) (brk : Nat) (op idle : Int) (keep : Nat) (p : Plan) (h : VOkB (k : Int) W limit brk) (hp : ¬ OkP p) : Spec Tryz.prog 10 [.agg (xsetL (k : Int) oa W.length c limit brk op idle keep p).toArray] [ent] (fun r H' => r = .pointer none ∧ H' = [ent]) := by
 refine Spec.of (E := [(0, .agg (xsetL (k : Int) oa W.length c limit brk op idle keep p).toArray)]) Tryz.func10 rfl (by kernel_rfl) Tryz.ntmps10 rfl rfl (fun w => ?_)
 refine WC_seq (WC_region ?_)
 refine WL_do rfl rfl rfl (D_box (cs := [_, _, _, _, _, _, _, _, _, _, _, _, _, _]) rfl rfl rfl) ?_
 rintro _ _ ⟨b1, rfl, rfl⟩
 refine WLa rfl (WL_nil (WQ_code (WC_seq (WC_region ?_))))
 refine WL_val rfl rfl rfl (R_fieldAddr rfl fa30_0 rfl) ?_
 refine WL_val rfl rfl rfl (R_load rfl sc22 rfl (mmD) rfl) ?_
 refine WL_val rfl rfl rfl (R_fieldAddr rfl fa30_1 rfl) ?_
 refine WL_val rfl rfl rfl (R_load rfl sc23 rfl (mmD) rfl) ?_
 refine WL_val rfl rfl rfl (R_fieldAddr rfl fa30_2 rfl) ?_
 refine WL_val rfl rfl rfl (R_load rfl sc3 rfl (mmD) rfl) ?_
 refine WL_val rfl rfl rfl (R_fieldAddr rfl fa30_3 rfl) ?_
 refine WL_val rfl rfl rfl (R_load rfl sc25 rfl (mmD) rfl) ?_
 refine WL_do rfl rfl rfl (D_call (xbnew_ok k W oa c ent ha limit brk h) rfl rfl rfl rfl (pqD)) ?_
 rintro _ _ ⟨_, ⟨bm, rfl, rfl, hbm⟩, rfl⟩
 refine WLa rfl (WLa rfl (WLa rfl (WLa rfl (WLa rfl (WL_nil (WQ_code (WC_seq (WC_seq (WC_region (WLa rfl ?_))))))))))
 refine WL_val rfl rfl rfl (R_neq rfl rfl rfl) ?_
 refine WLa rfl ?_
 refine WL_set (s := 23) (v := .bool false) rfl (by rfl) ?_
 refine WL_val rfl rfl rfl (R_fieldAddr rfl fa30_7 rfl) ?_
 refine WL_val rfl rfl rfl (R_loadA (vs := [_, _, _, _, _, _, _]) rfl ag28 rfl (mmD) rfl ((atZ : At _ 7 [_, _, _, _, _, _, _]))) ?_
 refine WL_do rfl rfl rfl (D_call (valid_ok p) rfl rfl rfl rfl (pqD)) ?_
 rintro _ _ ⟨_, ⟨rfl, rfl⟩, rfl⟩
 refine WL_set (s := 26) (v := .bool false) rfl (by exact congrArg Value.bool (decide_eq_false hp)) ?_
 refine WL_val rfl rfl rfl (R_not rfl rfl) ?_
 refine WLa rfl (WL_nil (WQ_code ?_))
 refine WC_T rfl ?_
 refine WC_seq (WC_region (WLa rfl (WL_nil (WQ_code (WC_ret ?_)))))
 refine WQ_ret rfl rfl (.cons (.tmp rfl) .nil) rfl (by
   exact ⟨rfl, rfl⟩) (pqD)
theorem mbeg_bad3 (k : Nat) (W : List Int) (oa : Option Addr) (c : Nat) (ent : Ent) (ha : Rd oa ent W) (limit : Int) (brk : Nat) (op idle : Int) (keep : Nat) (p : Plan) (h : VOkB (k : Int) W limit brk) (hp : OkP p) (hq : ¬ POk op idle keep) : Spec Tryz.prog 10 [.agg (xsetL (k : Int) oa W.length c limit brk op idle keep p).toArray] [ent] (fun r H' => r = .pointer none ∧ H' = [ent]) := by
 have hWl := h.2.1
 refine Spec.of (E := [(0, .agg (xsetL (k : Int) oa W.length c limit brk op idle keep p).toArray)]) Tryz.func10 rfl (by kernel_rfl) Tryz.ntmps10 rfl rfl (fun w => ?_)
 refine WC_seq (WC_region ?_)
 refine WL_do rfl rfl rfl (D_box (cs := [_, _, _, _, _, _, _, _, _, _, _, _, _, _]) rfl rfl rfl) ?_
 rintro _ _ ⟨b1, rfl, rfl⟩
 refine WLa rfl (WL_nil (WQ_code (WC_seq (WC_region ?_))))
 refine WL_val rfl rfl rfl (R_fieldAddr rfl fa30_0 rfl) ?_
 refine WL_val rfl rfl rfl (R_load rfl sc22 rfl (mmD) rfl) ?_
 refine WL_val rfl rfl rfl (R_fieldAddr rfl fa30_1 rfl) ?_
 refine WL_val rfl rfl rfl (R_load rfl sc23 rfl (mmD) rfl) ?_
 refine WL_val rfl rfl rfl (R_fieldAddr rfl fa30_2 rfl) ?_
 refine WL_val rfl rfl rfl (R_load rfl sc3 rfl (mmD) rfl) ?_
 refine WL_val rfl rfl rfl (R_fieldAddr rfl fa30_3 rfl) ?_
 refine WL_val rfl rfl rfl (R_load rfl sc25 rfl (mmD) rfl) ?_
 refine WL_do rfl rfl rfl (D_call (xbnew_ok k W oa c ent ha limit brk h) rfl rfl rfl rfl (pqD)) ?_
 rintro _ _ ⟨_, ⟨bm, rfl, rfl, hbm⟩, rfl⟩
 refine WLa rfl (WLa rfl (WLa rfl (WLa rfl (WLa rfl (WL_nil (WQ_code (WC_seq (WC_seq (WC_region (WLa rfl ?_))))))))))
 refine WL_val rfl rfl rfl (R_neq rfl rfl rfl) ?_
 refine WLa rfl ?_
 refine WL_set (s := 23) (v := .bool false) rfl (by rfl) ?_
 refine WL_val rfl rfl rfl (R_fieldAddr rfl fa30_7 rfl) ?_
 refine WL_val rfl rfl rfl (R_loadA (vs := [_, _, _, _, _, _, _]) rfl ag28 rfl (mmD) rfl ((atZ : At _ 7 [_, _, _, _, _, _, _]))) ?_
 refine WL_do rfl rfl rfl (D_call (valid_ok p) rfl rfl rfl rfl (pqD)) ?_
 rintro _ _ ⟨_, ⟨rfl, rfl⟩, rfl⟩
 refine WL_set (s := 26) (v := .bool true) rfl (by exact congrArg Value.bool (decide_eq_true hp)) ?_
 refine WL_val rfl rfl rfl (R_not rfl rfl) ?_
 refine WLa rfl (WL_nil (WQ_code ?_))
 refine WC_F rfl ?_
 refine WC_skip (WQ_code (WC_seq (WC_region (WLa rfl ?_))))
 refine WL_val rfl rfl rfl (R_fieldAddr rfl fa30_7 rfl) ?_
 refine WL_val rfl rfl rfl (R_loadA (vs := [_, _, _, _, _, _, _]) rfl ag28 rfl (mmD) rfl ((atZ : At _ 7 [_, _, _, _, _, _, _]))) ?_
 refine WL_val rfl rfl rfl (R_build rfl zv60 pl60 rfl rfl) ?_
 refine WL_do rfl rfl rfl (D_box (cs := [_, _, _, _, _, _, _, _, _, _, _, _]) rfl rfl rfl) ?_
 rintro _ _ ⟨b2, rfl, rfl⟩
 refine WLa rfl (WL_nil (WQ_code (WC_seq (WC_seq (WC_region (WLa rfl (WL_nil (WQ_code (WC_block ?_)))))))))
 refine WC_loopF (G := Unit) [2, 6, 7, 8, 34, 35, 36, 37, 38, 39, 40, 41, 42, 43, 44, 45, 46, 47, 48, 49, 50, 51, 52, 53, 54, 55, 56, 57, 58, 59, 60, 61, 62] (fun y => True) (fun y => [(6, .int .i64 0)]) (fun y => []) (fun y => 0) (()) (trivial) leZ (pqD) ?_
 rintro y _
 refine WC_seq (WC_seq (WC_region (WLa rfl ?_)))
 refine WL_val rfl rfl rfl (R_fieldAddr rfl fa30_1 rfl) ?_
 refine WL_val rfl rfl rfl (R_load rfl sc23 rfl (mmD) rfl) ?_
 refine WL_val rfl rfl rfl (R_len rfl Tryz.underlying23 rfl) ?_
 refine WL_val rfl rfl rfl (R_lss rfl rfl rfl) ?_
 refine WL_nil (WQ_code ?_)
 refine WC_dT rfl (by omega) ?_
 refine WC_skip (WQ_code (WC_seq (WC_block (WC_seq (WC_region ?_)))))
 refine WL_val rfl rfl rfl (R_fieldAddr rfl fa30_4 rfl) ?_
 refine WL_val rfl rfl rfl (R_load rfl sc3 rfl (mmD) rfl) ?_
 refine WL_val rfl rfl rfl (R_fieldAddr rfl fa30_5 rfl) ?_
 refine WL_val rfl rfl rfl (R_load rfl sc3 rfl (mmD) rfl) ?_
 refine WL_val rfl rfl rfl (R_fieldAddr rfl fa30_6 rfl) ?_
 refine WL_val rfl rfl rfl (R_load rfl sc25 rfl (mmD) rfl) ?_
 refine WL_do rfl rfl rfl (D_call (pnew_bad op idle keep (by unfold POk at hq; omega)) rfl rfl rfl rfl (pqD)) ?_
 rintro _ _ ⟨_, ⟨rfl, rfl⟩, rfl⟩
 refine WLa rfl (WLa rfl (WLa rfl (WLa rfl (WLa rfl (WL_nil (WQ_code (WC_seq (WC_seq (WC_region (WLa rfl ?_))))))))))
 refine WL_val rfl rfl rfl (R_neq rfl rfl rfl) ?_
 refine WL_nil (WQ_code ?_)
 refine WC_dT rfl (by decide) ?_
 refine WC_seq (WC_region (WLa rfl (WL_nil (WQ_code (WC_ret ?_)))))
 refine WQ_ret rfl rfl (.cons (.tmp rfl) .nil) rfl (by
   exact ⟨rfl, rfl⟩) (pqD)
theorem mbeg_ok (k : Nat) (W : List Int) (oa : Option Addr) (c : Nat) (ent : Ent) (ha : Rd oa ent W) (limit : Int) (brk : Nat) (op idle : Int) (keep : Nat) (p : Plan) (h : VOkB (k : Int) W limit brk) (hp : OkP p) (hq : POk op idle keep) (hsd : p.seed < 4294967296) (hkp : keep ≤ 18446744073709551615) : Spec Tryz.prog 10 [.agg (xsetL (k : Int) oa W.length c limit brk op idle keep p).toArray] [ent]
  (fun r H' => ∃ M : MM, r = ptrP M.p ∧ H' = ent :: mdH M (px0 k W limit brk op idle keep p) ∧ MIs 0 M (px0 k W limit brk op idle keep p)) := by
 have hWl := h.2.1
 obtain ⟨⟨hq1, hq2⟩, ⟨hq3, hq4⟩, hq5⟩ := hq
 refine Spec.of (E := [(0, .agg (xsetL (k : Int) oa W.length c limit brk op idle keep p).toArray)]) Tryz.func10 rfl (by kernel_rfl) Tryz.ntmps10 rfl rfl (fun w => ?_)
 refine WC_seq (WC_region ?_)
 refine WL_do rfl rfl rfl (D_box (cs := [_, _, _, _, _, _, _, _, _, _, _, _, _, _]) rfl rfl rfl) ?_
 rintro _ _ ⟨b1, rfl, rfl⟩
 refine WLa rfl (WL_nil (WQ_code (WC_seq (WC_region ?_))))
 refine WL_val rfl rfl rfl (R_fieldAddr rfl fa30_0 rfl) ?_
 refine WL_val rfl rfl rfl (R_load rfl sc22 rfl (mmD) rfl) ?_
 refine WL_val rfl rfl rfl (R_fieldAddr rfl fa30_1 rfl) ?_
 refine WL_val rfl rfl rfl (R_load rfl sc23 rfl (mmD) rfl) ?_
 refine WL_val rfl rfl rfl (R_fieldAddr rfl fa30_2 rfl) ?_
 refine WL_val rfl rfl rfl (R_load rfl sc3 rfl (mmD) rfl) ?_
 refine WL_val rfl rfl rfl (R_fieldAddr rfl fa30_3 rfl) ?_
 refine WL_val rfl rfl rfl (R_load rfl sc25 rfl (mmD) rfl) ?_
 refine WL_do rfl rfl rfl (D_call (xbnew_ok k W oa c ent ha limit brk h) rfl rfl rfl rfl (pqD)) ?_
 rintro _ _ ⟨_, ⟨bm, rfl, rfl, hbm⟩, rfl⟩
 refine WLa rfl (WLa rfl (WLa rfl (WLa rfl (WLa rfl (WL_nil (WQ_code (WC_seq (WC_seq (WC_region (WLa rfl ?_))))))))))
 refine WL_val rfl rfl rfl (R_neq rfl rfl rfl) ?_
 refine WLa rfl ?_
 refine WL_set (s := 23) (v := .bool false) rfl (by rfl) ?_
 refine WL_val rfl rfl rfl (R_fieldAddr rfl fa30_7 rfl) ?_
 refine WL_val rfl rfl rfl (R_loadA (vs := [_, _, _, _, _, _, _]) rfl ag28 rfl (mmD) rfl ((atZ : At _ 7 [_, _, _, _, _, _, _]))) ?_
 refine WL_do rfl rfl rfl (D_call (valid_ok p) rfl rfl rfl rfl (pqD)) ?_
 rintro _ _ ⟨_, ⟨rfl, rfl⟩, rfl⟩
 refine WL_set (s := 26) (v := .bool true) rfl (by exact congrArg Value.bool (decide_eq_true hp)) ?_
 refine WL_val rfl rfl rfl (R_not rfl rfl) ?_
 refine WLa rfl (WL_nil (WQ_code ?_))
 refine WC_F rfl ?_
 refine WC_skip (WQ_code (WC_seq (WC_region (WLa rfl ?_))))
 refine WL_val rfl rfl rfl (R_fieldAddr rfl fa30_7 rfl) ?_
 refine WL_val rfl rfl rfl (R_loadA (vs := [_, _, _, _, _, _, _]) rfl ag28 rfl (mmD) rfl ((atZ : At _ 7 [_, _, _, _, _, _, _]))) ?_
 refine WL_val rfl rfl rfl (R_build rfl zv60 pl60 rfl rfl) ?_
 refine WL_do rfl rfl rfl (D_box (cs := [_, _, _, _, _, _, _, _, _, _, _, _]) rfl rfl rfl) ?_
 rintro _ _ ⟨b2, rfl, rfl⟩
 refine WLa rfl (WL_nil (WQ_code (WC_seq (WC_seq (WC_region (WLa rfl (WL_nil (WQ_code (WC_block ?_)))))))))
 refine WC_none 63 ?_
 refine WC_none 84 ?_
 refine WC_none 79 ?_
 refine WC_loopF (G := XnW) [2, 6, 7, 8, 34, 35, 36, 37, 38, 39, 40, 41, 42, 43, 44, 45, 46, 47, 48, 49, 50, 51, 52, 53, 54, 55, 56, 57, 58, 59, 60, 61, 62] (fun y => y.j ≤ W.length ∧ y.L.length = y.j ∧ (∀ q ∈ y.L, PIs q (PS.new op.toNat idle.toNat keep)) ∧ y.B = poolsH y.L (List.replicate y.j (PS.new op.toNat idle.toNat keep)) ∧ Own y.o y.L.length y.c 1 (y.L.flatMap (fun q => [ptrP q.p])) y.t) (fun y => [(6, .int .i64 (y.j : Int))]) (fun y => [⟨some b2, cl ([ptrB bm.p, slV y.o y.L.length y.c] ++ plL p ++ [.int .u64 0, .slice none 0 0, .slice none 0 0]) 60⟩, ⟨y.o, cl (y.L.flatMap (fun q => [ptrP q.p]) ++ y.t) 79⟩] ++ y.B) (fun y => W.length - y.j) (⟨0, [], [], none, 0, []⟩) (⟨Nat.zero_le _, rfl, fun q hq => (by cases hq), rfl, Own.empty 1⟩) leZ (pqD) ?_
 rintro y ⟨hyj, hyL, hyp, hyB, hyo⟩
 refine WC_seq (WC_seq (WC_region (WLa rfl ?_)))
 refine WL_val rfl rfl rfl (R_fieldAddr rfl fa30_1 rfl) ?_
 refine WL_val rfl rfl rfl (R_load rfl sc23 rfl (mmD) rfl) ?_
 refine WL_val rfl rfl rfl (R_len rfl Tryz.underlying23 rfl) ?_
 refine WL_val rfl rfl rfl (R_lss rfl rfl rfl) ?_
 refine WL_nil (WQ_code ?_)
 refine WC_dec rfl (fun c1 => ?_) (fun c1 => ?_)
 ·refine WC_skip (WQ_code (WC_seq (WC_block (WC_seq (WC_region ?_)))))
  refine WL_val rfl rfl rfl (R_fieldAddr rfl fa30_4 rfl) ?_
  refine WL_val rfl rfl rfl (R_load rfl sc3 rfl (mmD) rfl) ?_
  refine WL_set (s := 43) (v := .int .i64 ((op.toNat : Nat) : Int)) rfl (by rw [Int.toNat_of_nonneg (by omega)]) ?_
  refine WL_val rfl rfl rfl (R_fieldAddr rfl fa30_5 rfl) ?_
  refine WL_val rfl rfl rfl (R_load rfl sc3 rfl (mmD) rfl) ?_
  refine WL_set (s := 45) (v := .int .i64 ((idle.toNat : Nat) : Int)) rfl (by rw [Int.toNat_of_nonneg (by omega)]) ?_
  refine WL_val rfl rfl rfl (R_fieldAddr rfl fa30_6 rfl) ?_
  refine WL_val rfl rfl rfl (R_load rfl sc25 rfl (mmD) rfl) ?_
  refine WL_do rfl rfl rfl (D_call (pnew_ok op.toNat idle.toNat keep ⟨by omega, by omega⟩ (by omega) ⟨hq5, hkp⟩) rfl rfl rfl rfl (pqD)) ?_
  rintro _ _ ⟨_, ⟨pm9, rfl, rfl, hpm9⟩, rfl⟩
  refine WLa rfl (WLa rfl (WLa rfl (WLa rfl (WLa rfl (WL_nil (WQ_code (WC_seq (WC_seq (WC_region (WLa rfl ?_))))))))))
  refine WL_val rfl rfl rfl (R_neq rfl rfl rfl) ?_
  refine WL_nil (WQ_code ?_)
  refine WC_dF rfl (by decide) ?_
  refine WC_skip (WQ_code (WC_region (WLa rfl (WLa rfl (WLa rfl ?_)))))
  refine WL_val rfl rfl rfl (R_fieldAddr rfl fa60_1 rfl) ?_
  refine WL_val rfl rfl rfl (R_load rfl sc56 rfl (mmD) rfl) ?_
  refine WLa rfl ?_
  refine WL_do rfl rfl rfl (D_buildSlice rfl si56 rfl rfl rfl) ?_
  rintro _ _ ⟨b3, rfl, rfl⟩
  refine WL_do rfl rfl rfl (D_append rfl si56 rfl (hyo) (plD) rfl (mmD) ((atZ : At _ 0 [_])) (rfl) (rfl) (by omega) (by omega)) ?_
  rintro _ _ ⟨ob4, cap4, tl4, rfl, own4, rfl⟩
  rw [show y.L.flatMap (fun q => [ptrP q.p]) ++ [ptrP pm9.p] = (y.L ++ [pm9]).flatMap (fun q => [ptrP q.p]) from by simp, show y.L.length + 1 = (y.L ++ [pm9]).length from by simp] at own4 ⊢
  refine WLa rfl ?_
  refine WL_val rfl rfl rfl (R_fieldAddr rfl fa60_1 rfl) ?_
  refine WL_do0 rfl rfl (D_store (vs := [_]) rfl Tryz.sizeOf56 rfl rfl rfl rfl rfl (plD) (Nat.le_of_ble_eq_true rfl)) ?_
  rintro _ _ rfl
  refine WL_nil (WQ_code (WC_region (WLa rfl ?_)))
  refine WL_val rfl rfl rfl (R_add rfl rfl rfl (by omega)) ?_
  refine WLa rfl (WL_nil ?_)
  refine WQ_nextF (⟨y.j + 1, y.L ++ [pm9], y.B ++ poH pm9 (PS.new op.toNat idle.toNat keep), ob4, cap4, tl4⟩) (⟨by dsimp only; omega, by dsimp only; rw [List.length_append, hyL]; rfl, fun q hq => by rcases List.mem_append.1 hq with hq | hq; exact hyp q hq; rw [List.mem_singleton.1 hq]; exact hpm9, by dsimp only; rw [hyB, List.replicate_succ', poolsH_snoc (by rw [List.length_replicate, hyL])], own4⟩) (by dsimp only; omega) leZ (psZ) rfl (pqD)
 ·have hjl : y.j = W.length := by omega
  refine WC_exit (WQ_code (WC_seq (WC_region (WLa rfl (WLa rfl (WL_nil (WQ_code (WC_ret ?_))))))))
  rw [hjl] at hyL hyB
  rw [hyB, hyL]
  have hlen : (px0 k W limit brk op idle keep p).P.length = W.length := List.length_replicate ..
  have hpx : mdH (⟨b2, bm, y.L, y.o, y.c, y.t, none, 0, [], none, 0, 0, [], []⟩ : MM) (px0 k W limit brk op idle keep p) = [⟨some b2, cl ([ptrB bm.p, slV y.o W.length y.c] ++ plL p ++ [.int .u64 0, .slice none 0 0, .slice none 0 0]) 60⟩, ⟨none, cl [] 84⟩, ⟨none, cl [] 63⟩, ⟨y.o, cl (y.L.flatMap (fun q => [ptrP q.p]) ++ y.t) 79⟩] ++ (balH bm ++ poolsH y.L (List.replicate W.length (PS.new op.toNat idle.toNat keep))) := by
   unfold mdH mdE mdC
   rw [hlen]; rfl
  refine WQ_ret rfl rfl (.cons (.tmp rfl) .nil) rfl (by
    exact ⟨(⟨b2, bm, y.L, y.o, y.c, y.t, none, 0, [], none, 0, 0, [], []⟩ : MM), rfl, (congrArg (List.cons ent) hpx).symm, ⟨hbm, by rw [hlen]; exact hyL, fun i mi si h1 h2 => by (have h3 := List.mem_of_getElem? h2); rw [List.eq_of_mem_replicate h3]; exact hyp mi (List.mem_of_getElem? h1), by rw [hlen, ← hyL]; exact hyo, Own.empty 9, OwnS.empty 5, hp, hsd, by rw [hlen]; show (bs0 k W limit brk).V.length = _; unfold bs0; rw [List.length_map], Nat.zero_le _⟩⟩) (pqD)
end Go.Proofs.YtelmlkdibcdebaaGreat
end
section
set_option linter.unusedVariables false
set_option maxRecDepth 20000
set_option maxHeartbeats 2000000
namespace Go.Proofs.YtelmlkdibcdebaaGreat
theorem mfind_ok (M : MM) (x : PX) (hO : Own M.so x.S.length M.sc 9 (x.S.flatMap encR) M.stl) (hl : x.S.length ≤ 1000) (n : Int) : Spec Tryz.prog 29 [ptrP M.p, .int .i64 n] [mdE M x, mdS M x] (fun r H' => r = .int .i64 (idS n x.S) ∧ H' = [mdE M x, mdS M x]) := by
 refine Spec.of (E := [(0, ptrP M.p), (1, .int .i64 n)]) Tryz.func29 rfl (by kernel_rfl) Tryz.ntmps29 rfl rfl (fun w => ?_)
 refine WC_seq (WC_region (WLa rfl (WL_nil (WQ_code (WC_seq (WC_seq (WC_region (WLa rfl (WL_nil (WQ_code (WC_block ?_)))))))))))
 refine WC_loopF (G := Nat) [4, 5, 6, 7, 8, 9, 10, 11, 12, 13, 14, 15, 16, 17, 18, 19, 20, 21, 22, 23, 24, 25] (fun k => k ≤ x.S.length ∧ ∀ v ∈ x.S.take k, v.num ≠ n) (fun k => [(5, .int .i64 (k : Int))]) (fun k => []) (fun k => x.S.length - k) (0) (⟨Nat.zero_le _, by simp⟩) leZ (pqD) ?_
 rintro k ⟨hk, hz⟩
 refine WC_seq (WC_seq (WC_region (WLa rfl (WLa rfl (WLa rfl ?_)))))
 refine WL_val rfl rfl rfl (R_fieldAddr rfl fa60_4 rfl) ?_
 refine WL_val rfl rfl rfl (R_load rfl sc57 rfl (mmD) rfl) ?_
 refine WL_val rfl rfl rfl (R_len rfl Tryz.underlying57 rfl) ?_
 refine WL_val rfl rfl rfl (R_lss rfl rfl rfl) ?_
 refine WL_nil (WQ_code ?_)
 refine WC_dec rfl (fun c1 => ?_) (fun c1 => ?_)
 ·refine WC_skip (WQ_code (WC_seq (WC_block (WC_seq (WC_region (WLa rfl (WLa rfl ?_)))))))
  refine WL_val rfl rfl rfl (R_fieldAddr rfl fa60_4 rfl) ?_
  obtain ⟨y, hy⟩ := getE (T := x.S) (i := k) (by omega)
  obtain ⟨wa, hwa⟩ := hO.some_of (by omega)
  refine WL_val rfl rfl rfl (R_load rfl sc57 rfl (mmD) rfl) ?_
  refine WLa rfl ?_
  refine WL_val rfl rfl rfl (R_idxO hwa rfl Tryz.underlying57 Tryz.sizeOf84 rfl rfl (by omega)) ?_
  refine WL_val rfl rfl rfl (R_fieldAddr rfl fa84_0 rfl) ?_
  refine WL_val rfl rfl rfl (R_loadO (v := .int .i64 y.num) hwa rfl sc3 rfl (mmD) (fm_get0 encR9 hy (j := 0) (by omega))) ?_
  refine WLa rfl ?_
  refine WL_val rfl rfl rfl (R_eql rfl rfl rfl) ?_
  refine WL_nil (WQ_code ?_)
  refine WC_dec rfl (fun c2 => ?_) (fun c2 => ?_)
  ·have hc := c2
   refine WC_seq (WC_region (WLa rfl (WLa rfl (WL_nil (WQ_code (WC_ret ?_))))))
   refine WQ_ret rfl rfl (.cons (.tmp rfl) .nil) rfl (by
     exact ⟨congrArg (Value.int .i64) (idS_hit hz hy hc).symm, rfl⟩) (pqD)
  ·have hc := c2
   refine WC_skip (WQ_code (WC_region (WLa rfl ?_)))
   refine WL_val rfl rfl rfl (R_add rfl rfl rfl (by omega)) ?_
   refine WLa rfl (WL_nil ?_)
   refine WQ_nextF (k + 1) (⟨by omega, fun v hv => by rw [take_next hy] at hv; rcases List.mem_append.1 hv with hv | hv; exact hz v hv; rw [List.mem_singleton.1 hv]; exact hc⟩) (by omega) leZ (psZ) rfl (pqD)
 ·have hkl : x.S.length ≤ k := by omega
  refine WC_exit (WQ_code (WC_seq (WC_region (WLa rfl (WL_nil (WQ_code (WC_ret ?_)))))))
  refine WQ_ret rfl rfl (.cons (.tmp rfl) .nil) rfl (by
    exact ⟨congrArg (Value.int .i64) (idS_none (by rw [List.take_of_length_le hkl] at hz; exact hz)).symm, rfl⟩) (pqD)
end Go.Proofs.YtelmlkdibcdebaaGreat
end
section
set_option linter.unusedVariables false
set_option maxRecDepth 20000
set_option maxHeartbeats 4000000
namespace Go.Proofs.YtelmlkdibcdebaaGreat
structure LkW where
 k : Nat
 d : Nat
theorem mfind_k {N : Nat} {M : MM} {x : PX} (h : MIs N M x) (hl : x.S.length ≤ 1000) (n : Int) : Spec Tryz.prog 29 [ptrP M.p, .int .i64 n] (mdH M x) (fun r H' => r = .int .i64 (idS n x.S) ∧ H' = mdH M x) :=
 ((mfind_ok M x h.sO hl n).fr ([mdV M x, mdQ M] ++ (balH M.bm ++ poolsH M.pm x.P))).mono fun r H' ⟨H1, ⟨e1, e2⟩, e3⟩ => ⟨e1, by rw [e3, e2]; rfl⟩
theorem dueV_le : ∀ (S : List Ss) (a : Nat), (S.foldl (fun a s => if s.st = 1 then min a s.til else a) a ≤ a) ∧ (∀ s ∈ S, s.st = 1 → S.foldl (fun a s => if s.st = 1 then min a s.til else a) a ≤ s.til) ∧ (S.foldl (fun a s => if s.st = 1 then min a s.til else a) a = a ∨ ∃ s ∈ S, s.st = 1 ∧ S.foldl (fun a s => if s.st = 1 then min a s.til else a) a = s.til)
 | [], a => ⟨Nat.le_refl _, fun s hs => (by cases hs), .inl rfl⟩
 | s :: r, a => by
  obtain ⟨h1, h2, h3⟩ := dueV_le r (if s.st = 1 then min a s.til else a)
  rw [List.foldl_cons]
  refine ⟨?_, fun q hq hs => ?_, ?_⟩
  ·by_cases e : s.st = 1
   ·rw [if_pos e] at h1 ⊢; exact Nat.le_trans h1 (Nat.min_le_left _ _)
   ·rw [if_neg e] at h1 ⊢; exact h1
  ·rcases List.mem_cons.1 hq with rfl | hq
   ·rw [if_pos hs] at h1 ⊢; exact Nat.le_trans h1 (Nat.min_le_right _ _)
   ·exact h2 q hq hs
  ·rcases h3 with h3 | ⟨q, hq, e1, e2⟩
   ·by_cases e : s.st = 1
    ·rw [if_pos e] at h3 ⊢
     rw [h3]
     by_cases e2 : a ≤ s.til
     ·exact .inl (Nat.min_eq_left e2)
     ·exact .inr ⟨s, List.mem_cons_self .., e, Nat.min_eq_right (by omega)⟩
    ·rw [if_neg e] at h3 ⊢; exact .inl h3
   ·exact .inr ⟨q, List.mem_cons_of_mem _ hq, e1, e2⟩
theorem dueV_eq {S : List Ss} {d : Nat} (hd : d ≤ 18446744073709551615) (h1 : ∀ s ∈ S, s.st = 1 → d ≤ s.til) (h2 : d = 18446744073709551615 ∨ ∃ s ∈ S, s.st = 1 ∧ d = s.til) : dueV S = d := by
 obtain ⟨a, b, c⟩ := dueV_le S 18446744073709551615
 unfold dueV
 rcases c with c | ⟨s, hs, e1, e2⟩
 ·rcases h2 with h2 | ⟨q, hq, e3, e4⟩
  ·rw [c, h2]
  ·have := b q hq e3
   omega
 ·have h3 := h1 s hs e1
  rcases h2 with h2 | ⟨q, hq, e3, e4⟩
  ·omega
  ·have := b q hq e3
   omega
theorem malike_ok {N N2 : Nat} {m : XM} {M : MM} {x : PX} (hP : PXIs N m x) (hM : MIs N2 M x) (hn : (x.S.map (·.num)).Nodup) : Spec Tryz.prog 11 [ptrP m.p, ptrP M.p] (pxK m x ++ mdH M x) (fun r H' => r = .bool true ∧ H' = pxK m x ++ mdH M x) := by
 have hSl := nums_len hn hP.num
 refine Spec.of (E := [(0, ptrP m.p), (1, ptrP M.p)]) Tryz.func11 rfl (by kernel_rfl) Tryz.ntmps11 rfl rfl (fun w => ?_)
 refine WC_seq (WC_region (WLa rfl (WL_nil (WQ_code (WC_seq (WC_region (WLa rfl (WL_nil (WQ_code (WC_seq (WC_seq (WC_region (WLa rfl (WL_nil (WQ_code (WC_block ?_))))))))))))))))
 refine WC_loopF (G := LkW) [4, 5, 6, 7, 8, 9, 10, 11, 12, 13, 14, 15, 16, 17, 18, 19, 20, 21, 22, 23, 24, 25, 26, 27, 28, 29, 30, 31, 32, 33, 34, 35, 36, 37, 38, 39, 40, 41, 42, 43, 44, 45, 46, 47, 48, 49] (fun y => y.k ≤ 103 ∧ y.d ≤ 18446744073709551615 ∧ (∀ s ∈ x.S, s.num < (y.k : Int) - 1 → s.st = 1 → y.d ≤ s.til) ∧ (y.d = 18446744073709551615 ∨ ∃ s ∈ x.S, s.st = 1 ∧ y.d = s.til)) (fun y => [(6, .int .i64 ((y.k : Int) - 1)), (5, .int .u64 (y.d : Int))]) (fun y => []) (fun y => 103 - y.k) (⟨0, 18446744073709551615⟩) (⟨by decide, Nat.le_refl _, fun s hs h9 => by have := hP.num s hs; dsimp only at h9; omega, .inl rfl⟩) leZ (pqD) ?_
 rintro y ⟨hk, hd0, hd1, hd2⟩
 refine WC_seq (WC_seq (WC_region (WLa rfl ?_)))
 refine WL_val rfl rfl rfl (R_leq rfl rfl rfl) ?_
 refine WL_nil (WQ_code ?_)
 refine WC_dec rfl (fun c1 => ?_) (fun c1 => ?_)
 ·rcases Classical.em (((y.k : Int) - 1) ∈ x.S.map (·.num)) with hin | hno
  ·obtain ⟨s, hs, hsn⟩ := List.mem_map.1 hin
   obtain ⟨A, B, hS⟩ := List.append_of_mem hs
   have hid : idS ((y.k : Int) - 1) x.S = (A.length : Int) := by rw [← hsn]; exact idS_at hS hn
   have hat : x.S[A.length]? = some s := by rw [hS, List.getElem?_append_right (Nat.le_refl _), Nat.sub_self]; rfl
   have hAl := (List.getElem?_eq_some_iff.1 hat).1
   obtain ⟨wa, hwa⟩ := hM.sO.some_of (by omega)
   have hst9 : x.stX ((y.k : Int) - 1) = (s.st, s.be, s.cn) := by unfold PX.stX; rw [← hsn, find_num hn hs]
   refine WC_skip (WQ_code (WC_seq (WC_block (WC_seq (WC_region (WLa rfl (WLa rfl ?_)))))))
   refine WL_do rfl rfl rfl (D_call (mfind_k hM (by omega) ((y.k : Int) - 1)) rfl rfl rfl rfl (pqD)) ?_
   rintro _ _ ⟨_, ⟨rfl, rfl⟩, rfl⟩
   rw [hid]
   refine WLa rfl (WL_nil (WQ_code (WC_seq (WC_seq (WC_region (WLa rfl ?_))))))
   refine WL_val rfl rfl rfl (R_lss rfl rfl rfl) ?_
   refine WL_nil (WQ_code ?_)
   refine WC_dF rfl (by omega) ?_
   refine WC_skip (WQ_code (WC_seq (WC_region (WLa rfl (WLa rfl ?_)))))
   refine WL_val rfl rfl rfl (R_fieldAddr rfl fa60_4 rfl) ?_
   refine WL_val rfl rfl rfl (R_load rfl sc57 rfl (mmD) rfl) ?_
   refine WLa rfl ?_
   refine WL_val rfl rfl rfl (R_idxO hwa rfl Tryz.underlying57 Tryz.sizeOf84 rfl rfl (by omega)) ?_
   refine WL_val rfl rfl rfl (R_loadAO (vs := encR s) hwa rfl ag84 rfl (mmD) rfl (fm_at0 encR9 hat (j := 0) (vs := encR s) (fun j v h => by rw [Nat.zero_add]; exact h) (Nat.le_refl 9))) ?_
   refine WL_do rfl rfl rfl (D_alloc rfl zv84) ?_
   rintro _ _ ⟨b1, rfl, rfl⟩
   refine WL_do0 rfl rfl (D_store (vs := [_, _, _, _, _, _, _, _, _]) rfl Tryz.sizeOf84 rfl rfl rfl rfl rfl (plD) (Nat.le_of_ble_eq_true rfl)) ?_
   rintro _ _ rfl
   refine WL_nil (WQ_code (WC_seq (WC_seq (WC_region (WLa rfl (WLa rfl ?_))))))
   refine WL_val rfl rfl rfl (R_fieldAddr rfl fa84_5 rfl) ?_
   refine WL_val rfl rfl rfl (R_load rfl sc49 rfl (mmD) rfl) ?_
   refine WL_val rfl rfl rfl (R_fieldAddr rfl fa84_7 rfl) ?_
   refine WL_val rfl rfl rfl (R_load rfl sc3 rfl (mmD) rfl) ?_
   refine WL_val rfl rfl rfl (R_fieldAddr rfl fa84_8 rfl) ?_
   refine WL_val rfl rfl rfl (R_load rfl sc3 rfl (mmD) rfl) ?_
   refine WL_do rfl rfl rfl (D_call (mis_ok hP ((y.k : Int) - 1) s.st s.be s.cn) rfl rfl rfl rfl (pqD)) ?_
   rintro _ _ ⟨_, ⟨rfl, rfl⟩, rfl⟩
   refine WL_set (s := 37) (v := .bool true) rfl (by exact congrArg Value.bool (decide_eq_true hst9)) ?_
   refine WL_val rfl rfl rfl (R_not rfl rfl) ?_
   refine WL_nil (WQ_code ?_)
   refine WC_F rfl ?_
   refine WC_skip (WQ_code (WC_seq (WC_region ?_)))
   refine WL_val rfl rfl rfl (R_fieldAddr rfl fa84_5 rfl) ?_
   refine WL_val rfl rfl rfl (R_load rfl sc49 rfl (mmD) rfl) ?_
   refine WL_val rfl rfl rfl (R_eql rfl rfl rfl) ?_
   refine WLa rfl ?_
   refine WL_splitD (s := 42) rfl (fun c2 => ?_) (fun c2 => ?_)
   ·have hq1 := c2
    refine WL_val rfl rfl rfl (R_fieldAddr rfl fa84_3 rfl) ?_
    refine WL_val rfl rfl rfl (R_load rfl sc25 rfl (mmD) rfl) ?_
    refine WLa rfl ?_
    refine WL_val rfl rfl rfl (R_lss rfl rfl rfl) ?_
    refine WLa rfl (WL_nil (WQ_code ?_))
    refine WC_dec rfl (fun c3 => ?_) (fun c3 => ?_)
    ·have hl9 : s.st = 1 ∧ s.til < y.d := ⟨hq1, by omega⟩
     refine WC_region ?_
     refine WL_val rfl rfl rfl (R_fieldAddr rfl fa84_3 rfl) ?_
     refine WL_val rfl rfl rfl (R_load rfl sc25 rfl (mmD) rfl) ?_
     refine WLa rfl (WL_nil (WQ_code (WC_region (WLa rfl ?_))))
     refine WL_val rfl rfl rfl (R_addR (r := ((y.k + 1 : Nat) : Int) - 1) rfl rfl rfl (by rw [wrap64_in (by omega) (by omega)]; omega)) ?_
     refine WLa rfl (WL_nil ?_)
     refine WQ_nextF (⟨y.k + 1, s.til⟩) (⟨by dsimp only; omega, by dsimp only; omega, fun q hq h9 h8 => by (dsimp only at h9 ⊢; rcases Classical.em (q.num = (y.k : Int) - 1) with e | e; (rw [uniq_num hn hq hs (e.trans hsn.symm)]; exact Nat.le_refl _); (have := hd1 q hq (by omega) h8; omega)), .inr ⟨s, hs, hl9.1, rfl⟩⟩) (by dsimp only; omega) leZ (psZ) rfl (pqD)
    ·have hnl : ¬ (s.st = 1 ∧ s.til < y.d) := by omega
     refine WC_skip (WQ_code (WC_region (WLa rfl ?_)))
     refine WL_val rfl rfl rfl (R_addR (r := ((y.k + 1 : Nat) : Int) - 1) rfl rfl rfl (by rw [wrap64_in (by omega) (by omega)]; omega)) ?_
     refine WLa rfl (WL_nil ?_)
     refine WQ_nextF (⟨y.k + 1, y.d⟩) (⟨by dsimp only; omega, hd0, fun q hq h9 h8 => by (dsimp only at h9 ⊢; rcases Classical.em (q.num = (y.k : Int) - 1) with e | e; (have h7 := uniq_num hn hq hs (e.trans hsn.symm); subst h7; omega); exact hd1 q hq (by omega) h8), hd2⟩) (by dsimp only; omega) leZ (psZ) rfl (pqD)
   ·have hq1 := c2
    have hnl : ¬ (s.st = 1 ∧ s.til < y.d) := fun e => hq1 e.1
    refine WL_skip rfl rfl rfl ?_
    refine WL_skip rfl rfl rfl ?_
    refine WL_skip rfl rfl rfl ?_
    refine WL_skip rfl rfl rfl ?_
    refine WLa rfl (WL_nil (WQ_code ?_))
    refine WC_F rfl ?_
    refine WC_skip (WQ_code (WC_region (WLa rfl ?_)))
    refine WL_val rfl rfl rfl (R_addR (r := ((y.k + 1 : Nat) : Int) - 1) rfl rfl rfl (by rw [wrap64_in (by omega) (by omega)]; omega)) ?_
    refine WLa rfl (WL_nil ?_)
    refine WQ_nextF (⟨y.k + 1, y.d⟩) (⟨by dsimp only; omega, hd0, fun q hq h9 h8 => by (dsimp only at h9 ⊢; rcases Classical.em (q.num = (y.k : Int) - 1) with e | e; (have h7 := uniq_num hn hq hs (e.trans hsn.symm); subst h7; omega); exact hd1 q hq (by omega) h8), hd2⟩) (by dsimp only; omega) leZ (psZ) rfl (pqD)
  ·have hid : idS ((y.k : Int) - 1) x.S = -1 := idS_no hno
   have hst9 : x.stX ((y.k : Int) - 1) = (0, -1, -1) := by unfold PX.stX; rw [find_out hno]
   refine WC_skip (WQ_code (WC_seq (WC_block (WC_seq (WC_region (WLa rfl (WLa rfl ?_)))))))
   refine WL_do rfl rfl rfl (D_call (mfind_k hM (by omega) ((y.k : Int) - 1)) rfl rfl rfl rfl (pqD)) ?_
   rintro _ _ ⟨_, ⟨rfl, rfl⟩, rfl⟩
   rw [hid]
   refine WLa rfl (WL_nil (WQ_code (WC_seq (WC_seq (WC_region (WLa rfl ?_))))))
   refine WL_val rfl rfl rfl (R_lss rfl rfl rfl) ?_
   refine WL_nil (WQ_code ?_)
   refine WC_dT rfl (by decide) ?_
   refine WC_seq (WC_seq (WC_region (WLa rfl (WLa rfl ?_))))
   refine WL_do rfl rfl rfl (D_call (mis_ok hP ((y.k : Int) - 1) 0 (-1) (-1)) rfl rfl rfl rfl (pqD)) ?_
   rintro _ _ ⟨_, ⟨rfl, rfl⟩, rfl⟩
   refine WL_set (s := 20) (v := .bool true) rfl (by exact congrArg Value.bool (decide_eq_true hst9)) ?_
   refine WL_val rfl rfl rfl (R_not rfl rfl) ?_
   refine WL_nil (WQ_code ?_)
   refine WC_F rfl ?_
   refine WC_skip (WQ_code (WC_exit (WQ_code (WC_region (WLa rfl ?_)))))
   refine WL_val rfl rfl rfl (R_addR (r := ((y.k + 1 : Nat) : Int) - 1) rfl rfl rfl (by rw [wrap64_in (by omega) (by omega)]; omega)) ?_
   refine WLa rfl (WL_nil ?_)
   refine WQ_nextF (⟨y.k + 1, y.d⟩) (⟨by dsimp only; omega, hd0, fun q hq h9 h8 => by (dsimp only at h9 ⊢; rcases Classical.em (q.num = (y.k : Int) - 1) with e | e; (exact absurd (by rw [← e]; exact List.mem_map_of_mem hq) hno); exact hd1 q hq (by omega) h8), hd2⟩) (by dsimp only; omega) leZ (psZ) rfl (pqD)
 ·refine WC_exit (WQ_code (WC_seq (WC_region (WLa rfl ?_))))
  refine WL_do rfl rfl rfl (D_call (xm_due hP hn) rfl rfl rfl rfl (pqD)) ?_
  rintro _ _ ⟨_, ⟨rfl, rfl⟩, rfl⟩
  rw [dueV_eq (d := y.d) hd0 (fun s hs h9 => hd1 s hs (by have := hP.num s hs; omega) h9) hd2]
  refine WLa rfl ?_
  refine WL_val rfl rfl rfl (R_eql rfl rfl rfl) ?_
  refine WLa rfl (WL_nil (WQ_code (WC_ret ?_)))
  refine WQ_ret rfl rfl (.cons (.tmp rfl) .nil) rfl (by
    exact ⟨congrArg Value.bool (by simp), rfl⟩) (pqD)
end Go.Proofs.YtelmlkdibcdebaaGreat
end
section
set_option linter.unusedVariables false
set_option maxRecDepth 20000
set_option maxHeartbeats 4000000
namespace Go.Proofs.YtelmlkdibcdebaaGreat
structure ZW9 where
 j : Nat
 V : List Int
theorem starts_big (k : Int) (W : List Int) (oa : Option Addr) (c : Nat) (ent : Ent) (ha : Rd oa ent W) (limit : Int) (brk : Nat) (op idle : Int) (keep : Nat) (p : Plan) (hW : W.length ≤ 9223372036854775807) (hf : ¬ (W.length ≤ 8 ∨ W.length = 65)) : Spec Tryz.prog 3 [.agg (xsetL k oa W.length c limit brk op idle keep p).toArray] [] (fun r H' => r = .bool true ∧ H' = []) := by
 refine Spec.of (E := [(0, .agg (xsetL k oa W.length c limit brk op idle keep p).toArray)]) Tryz.func3 rfl (by kernel_rfl) Tryz.ntmps3 rfl rfl (fun w => ?_)
 refine WC_seq (WC_region ?_)
 refine WL_do rfl rfl rfl (D_box (cs := [_, _, _, _, _, _, _, _, _, _, _, _, _, _]) rfl rfl rfl) ?_
 rintro _ _ ⟨b1, rfl, rfl⟩
 refine WLa rfl (WL_nil (WQ_code (WC_seq (WC_seq (WC_region ?_)))))
 refine WL_val rfl rfl rfl (R_loadA (vs := [_, _, _, _, _, _, _, _, _, _, _, _, _, _]) rfl ag30 rfl (mmD) rfl (atZ)) ?_
 refine WL_do rfl rfl rfl (D_call (few_nil k oa W.length c limit brk op idle keep p hW) rfl rfl rfl rfl (pqD)) ?_
 rintro _ _ ⟨_, ⟨rfl, rfl⟩, rfl⟩
 rw [decide_eq_false hf]
 refine WL_val rfl rfl rfl (R_not rfl rfl) ?_
 refine WL_nil (WQ_code ?_)
 refine WC_T rfl ?_
 refine WC_seq (WC_region ?_)
 refine WL_do rfl rfl rfl (D_call (known_ok) rfl rfl rfl rfl (pqD)) ?_
 rintro _ _ ⟨_, ⟨rfl, rfl⟩, rfl⟩
 refine WLa rfl (WL_nil (WQ_code (WC_ret ?_)))
 refine WQ_ret rfl rfl (.cons (.tmp rfl) .nil) rfl (by
   exact ⟨rfl, rfl⟩) (pqD)
theorem starts_bad1 (k : Int) (W : List Int) (oa : Option Addr) (c : Nat) (ent : Ent) (ha : Rd oa ent W) (limit : Int) (brk : Nat) (op idle : Int) (keep : Nat) (p : Plan) (hW : W.length ≤ 9223372036854775807) (hf : W.length ≤ 8 ∨ W.length = 65) (h : ¬ VOkB k W limit brk) : Spec Tryz.prog 3 [.agg (xsetL k oa W.length c limit brk op idle keep p).toArray] [ent] (fun r H' => r = .bool true ∧ H' = [ent]) := by
 refine Spec.of (E := [(0, .agg (xsetL k oa W.length c limit brk op idle keep p).toArray)]) Tryz.func3 rfl (by kernel_rfl) Tryz.ntmps3 rfl rfl (fun w => ?_)
 refine WC_seq (WC_region ?_)
 refine WL_do rfl rfl rfl (D_box (cs := [_, _, _, _, _, _, _, _, _, _, _, _, _, _]) rfl rfl rfl) ?_
 rintro _ _ ⟨b1, rfl, rfl⟩
 refine WLa rfl (WL_nil (WQ_code (WC_seq (WC_seq (WC_region ?_)))))
 refine WL_val rfl rfl rfl (R_loadA (vs := [_, _, _, _, _, _, _, _, _, _, _, _, _, _]) rfl ag30 rfl (mmD) rfl (atZ)) ?_
 refine WL_do rfl rfl rfl (D_call (few_nil k oa W.length c limit brk op idle keep p hW) rfl rfl rfl rfl (pqD)) ?_
 rintro _ _ ⟨_, ⟨rfl, rfl⟩, rfl⟩
 rw [decide_eq_true hf]
 refine WL_val rfl rfl rfl (R_not rfl rfl) ?_
 refine WL_nil (WQ_code ?_)
 refine WC_F rfl ?_
 refine WC_skip (WQ_code (WC_seq (WC_region ?_)))
 refine WL_val rfl rfl rfl (R_loadA (vs := [_, _, _, _, _, _, _, _, _, _, _, _, _, _]) rfl ag30 rfl (mmD) rfl (atZ)) ?_
 refine WL_do rfl rfl rfl (D_alloc rfl zv30) ?_
 rintro _ _ ⟨b2, rfl, rfl⟩
 refine WL_do0 rfl rfl (D_store (vs := [_, _, _, _, _, _, _, _, _, _, _, _, _, _]) rfl Tryz.sizeOf30 rfl rfl rfl rfl rfl (plD) (Nat.le_of_ble_eq_true rfl)) ?_
 rintro _ _ rfl
 refine WL_nil (WQ_code (WC_seq (WC_region ?_)))
 refine WL_val rfl rfl rfl (R_fieldAddr rfl fa30_1 rfl) ?_
 refine WL_val rfl rfl rfl (R_load rfl sc23 rfl (mmD) rfl) ?_
 refine WL_do rfl rfl rfl (D_appendIn rfl si23 rfl rfl (fun h9 => rd_in ha mmD h9) (by rw [ivs_len]; omega) (by omega) (by omega)) ?_
 rintro _ _ ⟨o9, c9, tl9, rfl, own9, rfl⟩
 refine WL_val rfl rfl rfl (R_fieldAddr rfl fa30_1 rfl) ?_
 refine WL_do0 rfl rfl (D_store (vs := [_]) rfl Tryz.sizeOf23 rfl rfl rfl rfl rfl (plD) (Nat.le_of_ble_eq_true rfl)) ?_
 rintro _ _ rfl
 refine WL_nil (WQ_code (WC_seq (WC_region ?_)))
 refine WL_val rfl rfl rfl (R_loadA (vs := [_, _, _, _, _, _, _, _, _, _, _, _, _, _]) rfl ag30 rfl (mmD) rfl (atZ)) ?_
 refine WL_do rfl rfl rfl (D_call (xnew_bad1 k W _ _ _ (Rd.own (e := 3) own9) limit brk op idle keep p h) rfl rfl rfl rfl (pqD)) ?_
 rintro _ _ ⟨_, ⟨rfl, rfl⟩, rfl⟩
 refine WLa rfl (WLa rfl (WLa rfl (WLa rfl (WLa rfl (WL_nil (WQ_code (WC_seq (WC_region ?_))))))))
 refine WL_val rfl rfl rfl (R_loadA (vs := [_, _, _, _, _, _, _, _, _, _, _, _, _, _]) rfl ag30 rfl (mmD) rfl (atZ)) ?_
 refine WL_do rfl rfl rfl (D_call (mbeg_bad1 k W oa c ent ha limit brk op idle keep p h) rfl rfl rfl rfl (pqD)) ?_
 rintro _ _ ⟨_, ⟨rfl, rfl⟩, rfl⟩
 refine WLa rfl (WL_nil (WQ_code (WC_seq (WC_seq (WC_region (WLa rfl ?_))))))
 refine WL_val rfl rfl rfl (R_ptrEqNil rfl Tryz.underlying37 rfl) ?_
 refine WL_nil (WQ_code ?_)
 refine WC_T rfl ?_
 refine WC_seq (WC_region (WLa rfl ?_))
 refine WL_val rfl rfl rfl (R_ptrEqNil rfl Tryz.underlying33 rfl) ?_
 refine WLa rfl (WLa rfl ?_)
 refine WL_val rfl rfl rfl (R_eql rfl rfl rfl) ?_
 refine WLa rfl (WLa rfl ?_)
 refine WL_set (s := 32) (v := .bool true) rfl (by rfl) ?_
 refine WL_do rfl rfl rfl (D_call (known_ok) rfl rfl rfl rfl (pqD)) ?_
 rintro _ _ ⟨_, ⟨rfl, rfl⟩, rfl⟩
 refine WLa rfl (WLa rfl (WL_nil (WQ_code (WC_ret ?_))))
 refine WQ_ret rfl rfl (.cons (.tmp rfl) .nil) rfl (by
   exact ⟨rfl, rfl⟩) (pqD)
theorem starts_bad2 (k : Nat) (W : List Int) (oa : Option Addr) (c : Nat) (ent : Ent) (ha : Rd oa ent W) (limit : Int) (brk : Nat) (op idle : Int) (keep : Nat) (p : Plan) (hW : W.length ≤ 9223372036854775807) (hf : W.length ≤ 8 ∨ W.length = 65) (h : VOkB (k : Int) W limit brk) (hp : ¬ OkP p) : Spec Tryz.prog 3 [.agg (xsetL (k : Int) oa W.length c limit brk op idle keep p).toArray] [ent] (fun r H' => r = .bool true ∧ H' = [ent]) := by
 refine Spec.of (E := [(0, .agg (xsetL (k : Int) oa W.length c limit brk op idle keep p).toArray)]) Tryz.func3 rfl (by kernel_rfl) Tryz.ntmps3 rfl rfl (fun w => ?_)
 refine WC_seq (WC_region ?_)
 refine WL_do rfl rfl rfl (D_box (cs := [_, _, _, _, _, _, _, _, _, _, _, _, _, _]) rfl rfl rfl) ?_
 rintro _ _ ⟨b1, rfl, rfl⟩
 refine WLa rfl (WL_nil (WQ_code (WC_seq (WC_seq (WC_region ?_)))))
 refine WL_val rfl rfl rfl (R_loadA (vs := [_, _, _, _, _, _, _, _, _, _, _, _, _, _]) rfl ag30 rfl (mmD) rfl (atZ)) ?_
 refine WL_do rfl rfl rfl (D_call (few_nil (k : Int) oa W.length c limit brk op idle keep p hW) rfl rfl rfl rfl (pqD)) ?_
 rintro _ _ ⟨_, ⟨rfl, rfl⟩, rfl⟩
 rw [decide_eq_true hf]
 refine WL_val rfl rfl rfl (R_not rfl rfl) ?_
 refine WL_nil (WQ_code ?_)
 refine WC_F rfl ?_
 refine WC_skip (WQ_code (WC_seq (WC_region ?_)))
 refine WL_val rfl rfl rfl (R_loadA (vs := [_, _, _, _, _, _, _, _, _, _, _, _, _, _]) rfl ag30 rfl (mmD) rfl (atZ)) ?_
 refine WL_do rfl rfl rfl (D_alloc rfl zv30) ?_
 rintro _ _ ⟨b2, rfl, rfl⟩
 refine WL_do0 rfl rfl (D_store (vs := [_, _, _, _, _, _, _, _, _, _, _, _, _, _]) rfl Tryz.sizeOf30 rfl rfl rfl rfl rfl (plD) (Nat.le_of_ble_eq_true rfl)) ?_
 rintro _ _ rfl
 refine WL_nil (WQ_code (WC_seq (WC_region ?_)))
 refine WL_val rfl rfl rfl (R_fieldAddr rfl fa30_1 rfl) ?_
 refine WL_val rfl rfl rfl (R_load rfl sc23 rfl (mmD) rfl) ?_
 refine WL_do rfl rfl rfl (D_appendIn rfl si23 rfl rfl (fun h9 => rd_in ha mmD h9) (by rw [ivs_len]; omega) (by omega) (by omega)) ?_
 rintro _ _ ⟨o9, c9, tl9, rfl, own9, rfl⟩
 refine WL_val rfl rfl rfl (R_fieldAddr rfl fa30_1 rfl) ?_
 refine WL_do0 rfl rfl (D_store (vs := [_]) rfl Tryz.sizeOf23 rfl rfl rfl rfl rfl (plD) (Nat.le_of_ble_eq_true rfl)) ?_
 rintro _ _ rfl
 refine WL_nil (WQ_code (WC_seq (WC_region ?_)))
 refine WL_val rfl rfl rfl (R_loadA (vs := [_, _, _, _, _, _, _, _, _, _, _, _, _, _]) rfl ag30 rfl (mmD) rfl (atZ)) ?_
 refine WL_do rfl rfl rfl (D_call (xnew_bad2 k W _ _ _ (Rd.own (e := 3) own9) limit brk op idle keep p h hp) rfl rfl rfl rfl (pqD)) ?_
 rintro _ _ ⟨_, ⟨rfl, rfl⟩, rfl⟩
 refine WLa rfl (WLa rfl (WLa rfl (WLa rfl (WLa rfl (WL_nil (WQ_code (WC_seq (WC_region ?_))))))))
 refine WL_val rfl rfl rfl (R_loadA (vs := [_, _, _, _, _, _, _, _, _, _, _, _, _, _]) rfl ag30 rfl (mmD) rfl (atZ)) ?_
 refine WL_do rfl rfl rfl (D_call (mbeg_bad2 k W oa c ent ha limit brk op idle keep p h hp) rfl rfl rfl rfl (pqD)) ?_
 rintro _ _ ⟨_, ⟨rfl, rfl⟩, rfl⟩
 refine WLa rfl (WL_nil (WQ_code (WC_seq (WC_seq (WC_region (WLa rfl ?_))))))
 refine WL_val rfl rfl rfl (R_ptrEqNil rfl Tryz.underlying37 rfl) ?_
 refine WL_nil (WQ_code ?_)
 refine WC_T rfl ?_
 refine WC_seq (WC_region (WLa rfl ?_))
 refine WL_val rfl rfl rfl (R_ptrEqNil rfl Tryz.underlying33 rfl) ?_
 refine WLa rfl (WLa rfl ?_)
 refine WL_val rfl rfl rfl (R_eql rfl rfl rfl) ?_
 refine WLa rfl (WLa rfl ?_)
 refine WL_set (s := 32) (v := .bool true) rfl (by rfl) ?_
 refine WL_do rfl rfl rfl (D_call (known_ok) rfl rfl rfl rfl (pqD)) ?_
 rintro _ _ ⟨_, ⟨rfl, rfl⟩, rfl⟩
 refine WLa rfl (WLa rfl (WL_nil (WQ_code (WC_ret ?_))))
 refine WQ_ret rfl rfl (.cons (.tmp rfl) .nil) rfl (by
   exact ⟨rfl, rfl⟩) (pqD)
theorem starts_bad3 (k : Nat) (W : List Int) (oa : Option Addr) (c : Nat) (ent : Ent) (ha : Rd oa ent W) (limit : Int) (brk : Nat) (op idle : Int) (keep : Nat) (p : Plan) (hW : W.length ≤ 9223372036854775807) (hf : W.length ≤ 8 ∨ W.length = 65) (h : VOkB (k : Int) W limit brk) (hp : OkP p) (hq : ¬ POk op idle keep) : Spec Tryz.prog 3 [.agg (xsetL (k : Int) oa W.length c limit brk op idle keep p).toArray] [ent] (fun r H' => r = .bool true ∧ H' = [ent]) := by
 refine Spec.of (E := [(0, .agg (xsetL (k : Int) oa W.length c limit brk op idle keep p).toArray)]) Tryz.func3 rfl (by kernel_rfl) Tryz.ntmps3 rfl rfl (fun w => ?_)
 refine WC_seq (WC_region ?_)
 refine WL_do rfl rfl rfl (D_box (cs := [_, _, _, _, _, _, _, _, _, _, _, _, _, _]) rfl rfl rfl) ?_
 rintro _ _ ⟨b1, rfl, rfl⟩
 refine WLa rfl (WL_nil (WQ_code (WC_seq (WC_seq (WC_region ?_)))))
 refine WL_val rfl rfl rfl (R_loadA (vs := [_, _, _, _, _, _, _, _, _, _, _, _, _, _]) rfl ag30 rfl (mmD) rfl (atZ)) ?_
 refine WL_do rfl rfl rfl (D_call (few_nil (k : Int) oa W.length c limit brk op idle keep p hW) rfl rfl rfl rfl (pqD)) ?_
 rintro _ _ ⟨_, ⟨rfl, rfl⟩, rfl⟩
 rw [decide_eq_true hf]
 refine WL_val rfl rfl rfl (R_not rfl rfl) ?_
 refine WL_nil (WQ_code ?_)
 refine WC_F rfl ?_
 refine WC_skip (WQ_code (WC_seq (WC_region ?_)))
 refine WL_val rfl rfl rfl (R_loadA (vs := [_, _, _, _, _, _, _, _, _, _, _, _, _, _]) rfl ag30 rfl (mmD) rfl (atZ)) ?_
 refine WL_do rfl rfl rfl (D_alloc rfl zv30) ?_
 rintro _ _ ⟨b2, rfl, rfl⟩
 refine WL_do0 rfl rfl (D_store (vs := [_, _, _, _, _, _, _, _, _, _, _, _, _, _]) rfl Tryz.sizeOf30 rfl rfl rfl rfl rfl (plD) (Nat.le_of_ble_eq_true rfl)) ?_
 rintro _ _ rfl
 refine WL_nil (WQ_code (WC_seq (WC_region ?_)))
 refine WL_val rfl rfl rfl (R_fieldAddr rfl fa30_1 rfl) ?_
 refine WL_val rfl rfl rfl (R_load rfl sc23 rfl (mmD) rfl) ?_
 refine WL_do rfl rfl rfl (D_appendIn rfl si23 rfl rfl (fun h9 => rd_in ha mmD h9) (by rw [ivs_len]; omega) (by omega) (by omega)) ?_
 rintro _ _ ⟨o9, c9, tl9, rfl, own9, rfl⟩
 refine WL_val rfl rfl rfl (R_fieldAddr rfl fa30_1 rfl) ?_
 refine WL_do0 rfl rfl (D_store (vs := [_]) rfl Tryz.sizeOf23 rfl rfl rfl rfl rfl (plD) (Nat.le_of_ble_eq_true rfl)) ?_
 rintro _ _ rfl
 refine WL_nil (WQ_code (WC_seq (WC_region ?_)))
 refine WL_val rfl rfl rfl (R_loadA (vs := [_, _, _, _, _, _, _, _, _, _, _, _, _, _]) rfl ag30 rfl (mmD) rfl (atZ)) ?_
 refine WL_do rfl rfl rfl (D_call (xnew_bad3 k W _ _ _ (Rd.own (e := 3) own9) limit brk op idle keep p h hp hq) rfl rfl rfl rfl (pqD)) ?_
 rintro _ _ ⟨_, ⟨rfl, rfl⟩, rfl⟩
 refine WLa rfl (WLa rfl (WLa rfl (WLa rfl (WLa rfl (WL_nil (WQ_code (WC_seq (WC_region ?_))))))))
 refine WL_val rfl rfl rfl (R_loadA (vs := [_, _, _, _, _, _, _, _, _, _, _, _, _, _]) rfl ag30 rfl (mmD) rfl (atZ)) ?_
 refine WL_do rfl rfl rfl (D_call (mbeg_bad3 k W oa c ent ha limit brk op idle keep p h hp hq) rfl rfl rfl rfl (pqD)) ?_
 rintro _ _ ⟨_, ⟨rfl, rfl⟩, rfl⟩
 refine WLa rfl (WL_nil (WQ_code (WC_seq (WC_seq (WC_region (WLa rfl ?_))))))
 refine WL_val rfl rfl rfl (R_ptrEqNil rfl Tryz.underlying37 rfl) ?_
 refine WL_nil (WQ_code ?_)
 refine WC_T rfl ?_
 refine WC_seq (WC_region (WLa rfl ?_))
 refine WL_val rfl rfl rfl (R_ptrEqNil rfl Tryz.underlying33 rfl) ?_
 refine WLa rfl (WLa rfl ?_)
 refine WL_val rfl rfl rfl (R_eql rfl rfl rfl) ?_
 refine WLa rfl (WLa rfl ?_)
 refine WL_set (s := 32) (v := .bool true) rfl (by rfl) ?_
 refine WL_do rfl rfl rfl (D_call (known_ok) rfl rfl rfl rfl (pqD)) ?_
 rintro _ _ ⟨_, ⟨rfl, rfl⟩, rfl⟩
 refine WLa rfl (WLa rfl (WL_nil (WQ_code (WC_ret ?_))))
 refine WQ_ret rfl rfl (.cons (.tmp rfl) .nil) rfl (by
   exact ⟨rfl, rfl⟩) (pqD)
theorem starts_ok (k : Nat) (W : List Int) (oa : Option Addr) (c : Nat) (ent : Ent) (ha : Rd oa ent W) (limit : Int) (brk : Nat) (op idle : Int) (keep : Nat) (p : Plan) (hW : W.length ≤ 9223372036854775807) (hf : W.length ≤ 8 ∨ W.length = 65) (h : VOkB (k : Int) W limit brk) (hp : OkP p) (hq : POk op idle keep) (hsd : p.seed < 4294967296) (hkp : keep ≤ 18446744073709551615) : Spec Tryz.prog 3 [.agg (xsetL (k : Int) oa W.length c limit brk op idle keep p).toArray] [ent] (fun r H' => r = .bool true ∧ H' = [ent]) := by
 have hWl := h.2.1
 refine Spec.of (E := [(0, .agg (xsetL (k : Int) oa W.length c limit brk op idle keep p).toArray)]) Tryz.func3 rfl (by kernel_rfl) Tryz.ntmps3 rfl rfl (fun w => ?_)
 refine WC_seq (WC_region ?_)
 refine WL_do rfl rfl rfl (D_box (cs := [_, _, _, _, _, _, _, _, _, _, _, _, _, _]) rfl rfl rfl) ?_
 rintro _ _ ⟨b1, rfl, rfl⟩
 refine WLa rfl (WL_nil (WQ_code (WC_seq (WC_seq (WC_region ?_)))))
 refine WL_val rfl rfl rfl (R_loadA (vs := [_, _, _, _, _, _, _, _, _, _, _, _, _, _]) rfl ag30 rfl (mmD) rfl (atZ)) ?_
 refine WL_do rfl rfl rfl (D_call (few_nil (k : Int) oa W.length c limit brk op idle keep p hW) rfl rfl rfl rfl (pqD)) ?_
 rintro _ _ ⟨_, ⟨rfl, rfl⟩, rfl⟩
 rw [decide_eq_true hf]
 refine WL_val rfl rfl rfl (R_not rfl rfl) ?_
 refine WL_nil (WQ_code ?_)
 refine WC_F rfl ?_
 refine WC_skip (WQ_code (WC_seq (WC_region ?_)))
 refine WL_val rfl rfl rfl (R_loadA (vs := [_, _, _, _, _, _, _, _, _, _, _, _, _, _]) rfl ag30 rfl (mmD) rfl (atZ)) ?_
 refine WL_do rfl rfl rfl (D_alloc rfl zv30) ?_
 rintro _ _ ⟨b2, rfl, rfl⟩
 refine WL_do0 rfl rfl (D_store (vs := [_, _, _, _, _, _, _, _, _, _, _, _, _, _]) rfl Tryz.sizeOf30 rfl rfl rfl rfl rfl (plD) (Nat.le_of_ble_eq_true rfl)) ?_
 rintro _ _ rfl
 refine WL_nil (WQ_code (WC_seq (WC_region ?_)))
 refine WL_val rfl rfl rfl (R_fieldAddr rfl fa30_1 rfl) ?_
 refine WL_val rfl rfl rfl (R_load rfl sc23 rfl (mmD) rfl) ?_
 refine WL_do rfl rfl rfl (D_appendIn rfl si23 rfl rfl (fun h9 => rd_in ha mmD h9) (by rw [ivs_len]; omega) (by omega) (by omega)) ?_
 rintro _ _ ⟨o9, c9, tl9, rfl, own9, rfl⟩
 obtain ⟨w9, rfl⟩ := own9.some_of (by omega)
 refine WL_val rfl rfl rfl (R_fieldAddr rfl fa30_1 rfl) ?_
 refine WL_do0 rfl rfl (D_store (vs := [_]) rfl Tryz.sizeOf23 rfl rfl rfl rfl rfl (plD) (Nat.le_of_ble_eq_true rfl)) ?_
 rintro _ _ rfl
 refine WL_nil (WQ_code (WC_seq (WC_region ?_)))
 refine WL_val rfl rfl rfl (R_loadA (vs := [_, _, _, _, _, _, _, _, _, _, _, _, _, _]) rfl ag30 rfl (mmD) rfl (atZ)) ?_
 refine WL_do rfl rfl rfl (D_call (xm_new k W _ _ _ (Rd.own (e := 3) own9) limit brk op idle keep p h hp hq hsd hkp) rfl rfl rfl rfl (pqD)) ?_
 rintro _ _ ⟨_, ⟨m0, rfl, rfl, g0⟩, rfl⟩
 refine WLa rfl (WLa rfl (WLa rfl (WLa rfl (WLa rfl (WL_nil (WQ_code (WC_seq (WC_region ?_))))))))
 refine WL_val rfl rfl rfl (R_loadA (vs := [_, _, _, _, _, _, _, _, _, _, _, _, _, _]) rfl ag30 rfl (mmD) rfl (atZ)) ?_
 refine WL_do rfl rfl rfl (D_call (mbeg_ok k W oa c ent ha limit brk op idle keep p h hp hq hsd hkp) rfl rfl rfl rfl (pqD)) ?_
 rintro _ _ ⟨_, ⟨M0, rfl, rfl, G0⟩, rfl⟩
 refine WLa rfl (WL_nil (WQ_code (WC_seq (WC_seq (WC_region (WLa rfl ?_))))))
 refine WL_val rfl rfl rfl (R_ptrEqNil rfl Tryz.underlying37 rfl) ?_
 refine WL_nil (WQ_code ?_)
 refine WC_F rfl ?_
 refine WC_skip (WQ_code (WC_seq (WC_seq (WC_region (WLa rfl (WL_nil (WQ_code (WC_block ?_))))))))
 refine WC_loopF (G := ZW9) [7, 35, 36, 37, 38, 39, 40, 41, 42, 43, 44, 45] (fun y => y.j ≤ W.length ∧ y.V.length = W.length) (fun y => [(7, .int .i64 (y.j : Int))]) (fun y => [⟨some w9, cl (ivs y.V ++ tl9) 3⟩]) (fun y => W.length - y.j) (⟨0, W⟩) (⟨Nat.zero_le _, rfl⟩) leZ (pqD) ?_
 rintro y ⟨hyj, hyV⟩
 refine WC_seq (WC_seq (WC_region (WLa rfl ?_)))
 refine WL_val rfl rfl rfl (R_fieldAddr rfl fa30_1 rfl) ?_
 refine WL_val rfl rfl rfl (R_load rfl sc23 rfl (mmD) rfl) ?_
 refine WL_val rfl rfl rfl (R_len rfl Tryz.underlying23 rfl) ?_
 refine WL_val rfl rfl rfl (R_lss rfl rfl rfl) ?_
 refine WL_nil (WQ_code ?_)
 refine WC_dec rfl (fun c1 => ?_) (fun c1 => ?_)
 ·refine WC_skip (WQ_code (WC_seq (WC_block (WC_region ?_))))
  obtain ⟨v9, hv9⟩ := getE (T := y.V) (i := y.j) (by omega)
  refine WL_val rfl rfl rfl (R_fieldAddr rfl fa30_1 rfl) ?_
  refine WL_val rfl rfl rfl (R_load rfl sc23 rfl (mmD) rfl) ?_
  refine WLa rfl ?_
  refine WL_val rfl rfl rfl (R_indexAddr rfl Tryz.underlying23 Tryz.sizeOf3 rfl rfl (by omega)) ?_
  refine WL_do0 rfl rfl (D_store (vs := [_]) rfl Tryz.sizeOf3 rfl rfl rfl rfl rfl (plD) (by exact fm_room0 encI1 (show y.j < y.V.length by omega) (j := 0) (by omega))) ?_
  rintro _ _ rfl
  have hput : putAt (ivs y.V ++ tl9) (0 + y.j * 1) [.int .i64 0] = ivs (y.V.set y.j 0) ++ tl9 := fm_put0 encI1 (0 : Int) hv9 (j := 0) (vs := [.int .i64 0]) (by simp) rfl (tl := tl9)
  rw [Int.toNat_natCast, hput]
  refine WL_nil (WQ_code (WC_region (WLa rfl ?_)))
  refine WL_val rfl rfl rfl (R_add rfl rfl rfl (by omega)) ?_
  refine WLa rfl (WL_nil ?_)
  refine WQ_nextF (⟨y.j + 1, y.V.set y.j 0⟩) (⟨by dsimp only; omega, by dsimp only; rw [List.length_set]; exact hyV⟩) (by dsimp only; omega) leZ (psZ) rfl (pqD)
 ·refine WC_exit (WQ_code (WC_seq (WC_region (WLa rfl ?_))))
  refine WL_val rfl rfl rfl (R_ptrNeNil rfl Tryz.underlying33 rfl) ?_
  refine WLa rfl (WLa rfl ?_)
  refine WL_val rfl rfl rfl (R_eql rfl rfl rfl) ?_
  refine WLa rfl (WLa rfl ?_)
  refine WL_set (s := 52) (v := .bool true) rfl (by rfl) ?_
  refine WLa rfl (WLa rfl ?_)
  refine WL_do rfl rfl rfl (D_call (malike_ok g0 G0 (show ((px0 k W limit brk op idle keep p).S.map (·.num)).Nodup from List.nodup_nil)) rfl rfl rfl rfl (pqD)) ?_
  rintro _ _ ⟨_, ⟨rfl, rfl⟩, rfl⟩
  refine WLa rfl (WLa rfl ?_)
  refine WL_do rfl rfl rfl (D_call (known_ok) rfl rfl rfl rfl (pqD)) ?_
  rintro _ _ ⟨_, ⟨rfl, rfl⟩, rfl⟩
  refine WLa rfl (WLa rfl (WL_nil (WQ_code (WC_ret ?_))))
  refine WQ_ret rfl rfl (.cons (.tmp rfl) .nil) rfl (by
    exact ⟨rfl, rfl⟩) (pqD)
end Go.Proofs.YtelmlkdibcdebaaGreat
end
