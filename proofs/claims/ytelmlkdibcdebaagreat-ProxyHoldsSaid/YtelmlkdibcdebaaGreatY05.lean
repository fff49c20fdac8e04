/-
 Chapter 49 (proxy), part StC: contracts of functions that the laws call, each for the heap it names.
-/
import Derived.Test.YtelmlkdibcdebaaGreatY04
import Derived.Test.YtelmlkdibcdebaaGreatRows
import Derived.Shelf.SlSortCmp.Whole1
import Derived.Shelf.SlSortCmp.NoneTotal
set_option linter.unusedVariables false
set_option maxRecDepth 20000
set_option maxHeartbeats 8000000
namespace Go.Proofs.YtelmlkdibcdebaaGreat
theorem get_n (si : PS) (hp : PH si) (who : Int) (now dl : Nat) : (si.getS who now dl).E = si.E ∧ (si.getS who now dl).n ≤ si.n + 1 ∧ PH (si.getS who now dl) := by
 by_cases he : getE_ si who now dl = 0
 ·obtain ⟨a, _, c, _, _, _, f, _⟩ := get_ev hp he
  exact ⟨f, c, a⟩
 ·rw [(get_err he).1]; exact ⟨rfl, Nat.le_succ _, hp⟩
theorem attX_fields (x : PX) (s : Ss) (si : PS) : (x.attX s si).P = x.P.set (x.pk s) (si.getS s.num x.now s.dl) ∧ (x.attX s si).b = x.b.pick s.key x.now ∧ (x.attX s si).now = x.now ∧ (x.attX s si).pl = x.pl ∧ (x.attX s si).E.length ≤ x.E.length + 1 := by
 by_cases h1 : (x.pv s si).k = 1
 ·rw [(attX_1 h1).1]; exact ⟨rfl, rfl, rfl, rfl, by show (x.E ++ [_]).length ≤ _; rw [List.length_append]; exact Nat.le_refl _⟩
 ·by_cases h2 : (x.pv s si).k = 2
  ·rw [(attX_2 h1 h2).1]; exact ⟨rfl, rfl, rfl, rfl, by show (x.E ++ [_]).length ≤ _; rw [List.length_append]; exact Nat.le_refl _⟩
  ·rw [(attX_3 h1 h2).1]; exact ⟨rfl, rfl, rfl, rfl, Nat.le_succ _⟩
theorem attS_fields (x : PX) (s : Ss) (si : PS) : (x.attS s si).num = s.num ∧ (x.attS s si).key = s.key ∧ (x.attS s si).tr = s.tr ∧ (x.attS s si).be = (x.pk s : Int) ∧ (x.attS s si).dl = s.dl := by
 by_cases h1 : (x.pv s si).k = 1
 ·rw [(attX_1 h1).2]; exact ⟨rfl, rfl, rfl, rfl, rfl⟩
 ·by_cases h2 : (x.pv s si).k = 2
  ·rw [(attX_2 h1 h2).2]; exact ⟨rfl, rfl, rfl, rfl, rfl⟩
  ·rw [(attX_3 h1 h2).2]; exact ⟨rfl, rfl, rfl, rfl, rfl⟩
theorem PoIn.attS {x : PX} (h : PXG x) {A B : List Ss} {s : Ss} (hS : x.S = A ++ s :: B) (hst : s.st ≠ 2) (hst3 : s.st ≠ 3) {si : PS} (hsi : x.P[x.pk s]? = some si) : PoIn (A ++ x.attS s si :: B) x.now (x.pk s) (si.getS s.num x.now s.dl) := by
 have hs : s ∈ x.S := by rw [hS]; exact List.mem_append_right _ (List.mem_cons_self ..)
 have hnd := h.noDial hs hst hst3
 have hnp := h.noPend hs hst hsi
 have h0 : PoIn (A ++ x.attS s si :: B) x.now (x.pk s) si := PoIn.away h hs hst hnd (by rw [hS]; exact onlyAt_swap _) hsi
 have hin : x.attS s si ∈ A ++ x.attS s si :: B := List.mem_append_right _ (List.mem_cons_self ..)
 obtain ⟨f1, f2, f3, f4, f5⟩ := attS_fields x s si
 by_cases he : getE_ si s.num x.now s.dl = 0
 ·obtain ⟨gp, _, _, gn, _⟩ := get_ev h0.ph he
  by_cases hi : allI 3 si.C = []
  ·cases hr : si.room with
   | true =>
    obtain ⟨e1, e2⟩ := get_dial he hi hr
    have h1 : ¬ (x.pv s si).k = 1 := by unfold PX.pv; rw [e2]; show ¬ (2 : Int) = 1; decide
    have h2 : (x.pv s si).k = 2 := by unfold PX.pv; rw [e2]
    have hS2 := (attX_2 h1 h2).2
    have hc : (x.pv s si).c = (si.free : Int) := by unfold PX.pv; rw [e2]
    rw [e1] at gp gn ⊢
    refine ⟨gp, by rw [gn]; exact Nat.le_refl _, h0.nd, h0.ks, h0.wt, fun c y hy hs1 => ?_⟩
    have hy : (si.C.set si.free ⟨1, s.num, 0⟩)[c]? = some y := hy
    by_cases e : si.free = c
    ·subst e
     have hl : si.free < si.C.length := by have := (List.getElem?_eq_some_iff.1 hy).1; rwa [List.length_set] at this
     rw [List.getElem?_set_self hl] at hy
     rw [← Option.some.inj hy]
     exact .inl ⟨_, hin, f1, by rw [hS2], f4, by rw [hS2]; exact hc⟩
    ·rw [List.getElem?_set_ne e] at hy
     exact h0.dl c y hy hs1
   | false =>
    obtain ⟨e1, e2⟩ := get_wait he hi hr
    have h1 : ¬ (x.pv s si).k = 1 := by unfold PX.pv; rw [e2]; show ¬ (3 : Int) = 1; decide
    have h2 : ¬ (x.pv s si).k = 2 := by unfold PX.pv; rw [e2]; show ¬ (3 : Int) = 2; decide
    have hS2 := (attX_3 h1 h2).2
    rw [e1] at gp gn ⊢
    have hpe : PS.pend { si with now := x.now, Q := si.Q ++ [⟨si.n + 1, s.num, s.dl⟩], n := si.n + 1 } = si.pend ++ [s.num] := by
     unfold PS.pend; simp
    refine ⟨gp, Nat.le_refl _, ?_, h0.ks, fun w hw => ?_, h0.dl⟩
    ·rw [hpe, List.nodup_append]
     exact ⟨h0.nd, by simp, fun a ha b hb => by rw [List.mem_singleton.1 hb]; rintro rfl; exact hnp ha⟩
    ·rw [hpe] at hw
     rcases List.mem_append.1 hw with hw | hw
     ·exact h0.wt w hw
     ·rw [List.mem_singleton.1 hw]
      exact ⟨_, hin, f1, by rw [hS2], f4⟩
  ·obtain ⟨e1, e2⟩ := get_use he hi
   rw [e1] at gp gn ⊢
   exact h0.op ((opd_at si x.now).trans (opd_set _ _ (by show (2 : Int) ≠ 1; decide))) gp (by rw [gn]; exact Nat.le_refl _)
 ·rw [(get_err he).1]; exact h0
theorem PXG.attF {x : PX} (h : PXG x) {A B : List Ss} {s : Ss} (hS : x.S = A ++ s :: B) (hst : s.st ≠ 2) (hst3 : s.st ≠ 3) (hpl : x.pl.tries ≤ 100) : PXG (x.attF s) := by
 have hs : s ∈ x.S := by rw [hS]; exact List.mem_append_right _ (List.mem_cons_self ..)
 have hnd := h.noDial hs hst hst3
 rw [← attF_eq hS h.nd]
 unfold PX.att
 by_cases hc : x.b.cand x.now = []
 ·rw [if_pos hc]
  have := h.fldF hS hst hnd hpl
  rw [fldF_eq hS h.nd] at this
  exact this
 ·rw [if_neg hc]
  cases hsi : x.P[x.pk s]? with
  | none => exact h
  | some si =>
   dsimp only
   obtain ⟨p1, p2, p3, p4, p5⟩ := attX_fields x s si
   obtain ⟨f1, f2, f3, f4, f5⟩ := attS_fields x s si
   refine h.swap hS rfl f1 (by rw [f2, f3]; exact h.ks s hs) (fun _ => ⟨_, f4, (List.getElem?_eq_some_iff.1 hsi).1⟩) ?_ ?_ ?_
   ·show (x.attX s si).b.last ≤ (x.attX s si).now
    rw [p2, p3]; exact Nat.le_refl _
   ·show (x.attX s si).P.length = _
    rw [p1, List.length_set]
   ·show ∀ (i : Nat) (sj : PS), (x.attX s si).P[i]? = some sj → PoIn _ (x.attX s si).now i sj
    rw [p1, p3]
    exact po_set hsi (PoIn.attS h hS hst hst3 hsi) fun j sj _ hj => PoIn.away h hs hst hnd (by rw [hS]; exact onlyAt_swap _) hj
def PX.dueF (now : Nat) (x : PX) (s : Ss) : PX := if s.dl ≤ now then { x.tell ⟨3, s.num, -1, -1, 12⟩ with S := x.S.filter fun y => decide (y.num ≠ s.num) } else x.attF s
abbrev ltS (a b : Ss) : Prop := a.til < b.til ∨ (a.til = b.til ∧ a.num < b.num)
def PX.due (x : PX) : List Ss := (x.S.filter (fun s => decide (s.st = 1 ∧ s.til ≤ x.now))).mergeSort (fun a b => decide (a.til < b.til ∨ (a.til = b.til ∧ a.num ≤ b.num)))
def PX.advP (now : Nat) (x : PX) (i : Nat) : PX := match x.P[i]? with
 | none => x
 | some si => PX.drain { x with P := x.P.set i (si.advance now) } i
def PX.advK (x : PX) (now k : Nat) : PX := (List.range k).foldl (PX.advP now) { x with now := now }
def PX.adv (x : PX) (now : Nat) : PX := (x.advK now x.P.length).due.foldl (PX.dueF now) (x.advK now x.P.length)
theorem advK_next (x : PX) (now k : Nat) : x.advK now (k + 1) = (x.advK now k).advP now k := by unfold PX.advK; rw [List.range_succ, List.foldl_append]; rfl
theorem due_perm (x : PX) : x.due.Perm (x.S.filter (fun s => decide (s.st = 1 ∧ s.til ≤ x.now))) := List.mergeSort_perm _ _
theorem due_mem {x : PX} {s : Ss} (h : s ∈ x.due) : s ∈ x.S ∧ s.st = 1 ∧ s.til ≤ x.now := by
 have := (due_perm x).mem_iff.1 h
 rw [List.mem_filter] at this
 exact ⟨this.1, of_decide_eq_true this.2⟩
theorem due_nodup {x : PX} (hn : (x.S.map (·.num)).Nodup) : (x.due.map (·.num)).Nodup := ((due_perm x).map _).nodup_iff.2 (hn.sublist ((List.filter_sublist ..).map _))
theorem due_srt {x : PX} (hn : (x.S.map (·.num)).Nodup) : x.due.Pairwise ltS := by
 have h1 : x.due.Pairwise (fun a b => decide (a.til < b.til ∨ (a.til = b.til ∧ a.num ≤ b.num)) = true) := List.pairwise_mergeSort (fun a b c h1 h2 => by simp only [decide_eq_true_eq] at *; omega) (fun a b => by simp only [Bool.or_eq_true, decide_eq_true_eq]; omega) _
 have h4 := due_nodup hn
 rw [List.nodup_iff_pairwise_ne, List.pairwise_map] at h4
 refine (h1.and h4).imp fun {a b} ⟨h3, h4⟩ => ?_
 simp only [decide_eq_true_eq] at h3
 show a.til < b.til ∨ (a.til = b.til ∧ a.num < b.num)
 omega
theorem PXG.advP {x : PX} (h : PXG x) (i : Nat) : PXG (x.advP x.now i) := by
 unfold PX.advP
 cases hi : x.P[i]? with
 | none => exact h
 | some si =>
  have hp := h.po i si hi
  obtain ⟨a, b⟩ := ph_adv hp.ph hp.nw
  exact (h.pool hi (hp.op (opd_adv (pend_who hp) x.now) a b)).drain i
theorem advP_P (now : Nat) (x : PX) (i : Nat) : (x.advP now i).now = x.now ∧ (x.advP now i).pl = x.pl ∧ (x.advP now i).P.length = x.P.length := by
 unfold PX.advP
 cases hi : x.P[i]? with
 | none => exact ⟨rfl, rfl, rfl⟩
 | some si => exact ⟨drain_now _ i, drain_pl _ i, by rw [drain_len]; exact List.length_set ..⟩
theorem drainL_other (i : Nat) : ∀ (n : Nat) (x : PX) (j : Nat), j ≠ i → (PX.drainL i n x).P[j]? = x.P[j]?
 | 0, _, _, _ => rfl
 | n + 1, x, j, hj => by
  unfold PX.drainL
  split
  ·rfl
  ·rename_i si hi
   split
   ·rfl
   ·rename_i e r hE
    rw [drainL_other i n _ j hj, (drE_P i _ e).1]
    exact List.getElem?_set_ne (fun q => hj q.symm)
theorem drain_other {x : PX} {i j : Nat} (hj : j ≠ i) : (x.drain i).P[j]? = x.P[j]? := by obtain ⟨n, e⟩ := drain_eqL x i; rw [e]; exact drainL_other i n x j hj
theorem advP_other {now : Nat} {x : PX} {i j : Nat} (hj : j ≠ i) : (x.advP now i).P[j]? = x.P[j]? := by
 unfold PX.advP
 cases hi : x.P[i]? with
 | none => rfl
 | some si =>
  show (PX.drain _ i).P[j]? = _
  rw [drain_other hj]
  exact List.getElem?_set_ne (fun q => hj q.symm)
theorem advK_facts (x : PX) (now : Nat) : ∀ k, (x.advK now k).now = now ∧ (x.advK now k).pl = x.pl ∧ (x.advK now k).P.length = x.P.length ∧ ∀ j, k ≤ j → (x.advK now k).P[j]? = x.P[j]?
 | 0 => ⟨rfl, rfl, rfl, fun _ _ => rfl⟩
 | k + 1 => by
  obtain ⟨a, b, c, d⟩ := advK_facts x now k
  obtain ⟨e, f, g⟩ := advP_P now (x.advK now k) k
  rw [advK_next]
  exact ⟨e.trans a, f.trans b, g.trans c, fun j hj => by rw [advP_other (by omega)]; exact d j (by omega)⟩
theorem PXG.advK {x : PX} (h : PXG x) {now : Nat} (hn : x.now ≤ now) : ∀ k, PXG (x.advK now k)
 | 0 => h.at_ hn
 | k + 1 => by
  have ih := PXG.advK h hn k
  have := ih.advP k
  rw [advK_next, ← (advK_facts x now k).1]
  rw [(advK_facts x now k).1] at this ⊢
  exact this
theorem PXG.drop1 {x : PX} (h : PXG x) {A B : List Ss} {s : Ss} (hS : x.S = A ++ s :: B) (hst : s.st ≠ 2) (hd : NoDial s.num x) (v : Xv) : PXG { x.tell v with S := A ++ B } := by
 have hs : s ∈ x.S := by rw [hS]; exact List.mem_append_right _ (List.mem_cons_self ..)
 exact h.drop hS rfl h.bl rfl fun i si hi => PoIn.away h hs hst hd (by rw [hS]; exact onlyAt_drop) hi
theorem PXG.dueF {x : PX} (h : PXG x) (now : Nat) {A B : List Ss} {s : Ss} (hS : x.S = A ++ s :: B) (hst : s.st = 1) (hpl : x.pl.tries ≤ 100) : PXG (x.dueF now s) := by
 have hs : s ∈ x.S := by rw [hS]; exact List.mem_append_right _ (List.mem_cons_self ..)
 unfold PX.dueF
 split
 ·rw [filt_num hS h.nd]
  exact h.drop1 hS (by rw [hst]; decide) (h.noDial hs (by rw [hst]; decide) (by rw [hst]; decide)) _
 ·exact h.attF hS (by rw [hst]; decide) (by rw [hst]; decide) hpl
def PXB (b : Nat) (x : PX) : Prop := ∀ si ∈ x.P, si.E = [] ∧ si.n ≤ b
theorem fldF_rest {x : PX} (s : Ss) : (x.fldF s).P = x.P ∧ (x.fldF s).now = x.now ∧ (x.fldF s).pl = x.pl ∧ (x.fldF s).E.length ≤ x.E.length + 1 ∧ (x.fldF s).b = x.b := by
 unfold PX.fldF
 split
 ·exact ⟨rfl, rfl, rfl, Nat.le_succ _, rfl⟩
 ·exact ⟨rfl, rfl, rfl, by show (x.E ++ [_]).length ≤ _; rw [List.length_append]; exact Nat.le_refl _, rfl⟩
theorem attF_rest {x : PX} (h : PXG x) (s : Ss) {b : Nat} (hb : PXB b x) : (x.attF s).now = x.now ∧ (x.attF s).pl = x.pl ∧ (x.attF s).E.length ≤ x.E.length + 1 ∧ PXB (b + 1) (x.attF s) ∧ (x.attF s).P.length = x.P.length := by
 have hb1 : PXB (b + 1) x := fun si hi => ⟨(hb si hi).1, Nat.le_succ_of_le (hb si hi).2⟩
 unfold PX.attF
 split
 ·obtain ⟨a, c, d, e, _⟩ := fldF_rest (x := x) s
  exact ⟨c, d, e, fun si hi => hb1 si (by rw [← a]; exact hi), by rw [a]⟩
 ·cases hsi : x.P[x.pk s]? with
  | none => exact ⟨rfl, rfl, Nat.le_succ _, hb1, rfl⟩
  | some si =>
   dsimp only
   obtain ⟨p1, p2, p3, p4, p5⟩ := attX_fields x s si
   refine ⟨p3, p4, p5, fun sj hj => ?_, by rw [p1]; exact List.length_set ..⟩
   have hj : sj ∈ (x.attX s si).P := hj
   rw [p1] at hj
   rcases List.mem_or_eq_of_mem_set hj with hj | rfl
   ·exact hb1 sj hj
   ·obtain ⟨e1, e2, _⟩ := get_n si (h.po _ si hsi).ph s.num x.now s.dl
    have := hb si (List.mem_of_getElem? hsi)
    exact ⟨by rw [e1]; exact this.1, by omega⟩
theorem dueF_rest {x : PX} (h : PXG x) (now : Nat) (s : Ss) {b : Nat} (hb : PXB b x) : (x.dueF now s).now = x.now ∧ (x.dueF now s).pl = x.pl ∧ (x.dueF now s).E.length ≤ x.E.length + 1 ∧ PXB (b + 1) (x.dueF now s) ∧ (x.dueF now s).P.length = x.P.length := by
 unfold PX.dueF
 split
 ·exact ⟨rfl, rfl, by show (x.E ++ [_]).length ≤ _; rw [List.length_append]; exact Nat.le_refl _, fun si hi => ⟨(hb si hi).1, Nat.le_succ_of_le (hb si hi).2⟩, rfl⟩
 ·exact attF_rest h s hb
theorem onlyAt_updS {S : List Ss} {n : Int} (f : Ss → Ss) : OnlyAt n S (updS S n f) := fun y hy hn => by
 unfold updS
 exact List.mem_map.2 ⟨y, hy, if_neg hn⟩
theorem onlyAt_filt {S : List Ss} {n : Int} : OnlyAt n S (S.filter fun y => decide (y.num ≠ n)) := fun y hy hn => List.mem_filter.2 ⟨hy, decide_eq_true hn⟩
theorem attF_only (x : PX) (s : Ss) : OnlyAt s.num x.S (x.attF s).S := by
 unfold PX.attF
 split
 ·unfold PX.fldF
  split
  ·exact onlyAt_updS _
  ·exact onlyAt_filt
 ·split
  ·exact onlyAt_updS _
  ·exact fun y hy _ => hy
theorem dueF_only (x : PX) (now : Nat) (s : Ss) : OnlyAt s.num x.S (x.dueF now s).S := by
 unfold PX.dueF
 split
 ·exact onlyAt_filt
 ·exact attF_only x s
abbrev encP (pl : Int → Nat) (v : Int) : List Value := [ptrS (pl v)]
abbrev ivsP (pl : Int → Nat) (l : List Int) : List Value := l.flatMap (encP pl)
theorem encP1 (pl : Int → Nat) (v : Int) : (encP pl v).length = 1 := rfl
theorem ivsP_len (pl : Int → Nat) (l : List Int) : (ivsP pl l).length = l.length := by rw [fm_length (encP1 pl)]; omega
abbrev plW (W : List (Int × Nat)) (a : Int) : Nat := getT W a 0
theorem xvit_ok {W : List (Int × Nat)} (bb mb : Nat) (es : Array MapEntry) (c : Nat) (hM : Mk ekW ptrS es c W) : IterAny Tryz.prog 91 [.pointer (some ⟨bb, 0, none⟩)] [⟨some bb, cl [.map (some mb)] 66⟩, ⟨some mb, .map es c⟩] (fun a : Int => [ptrS (plW W a)]) (fun pre x => x ∈ W.map (·.1) ∧ x ∉ pre) (fun xs => xs.Perm (W.map (·.1))) := by
 intro lp J Jx hY hj h0
 refine Spec.of (E := [(0, yieldV lp), (1, .pointer (some ⟨bb, 0, none⟩))]) Tryz.func91 rfl (by kernel_rfl) Tryz.ntmps91 rfl rfl (fun w => ?_)
 refine WCr (WLl Z sc66 mmZ Z (WLd Z (D_rangeMap Z Tryz.underlying66 Z mmZ) ?_))
 rintro _ _ ⟨bi, rfl, rfl⟩
 refine WL_nil (WQ_code (WC_block (WC_loopH (G := KyG Int) [4, 7, 8, 9, 10, 11, 12, 13, 14] (fun y => KsG ekW W es y.seen y.ys ∧ J y.ys y.hj) (fun y => []) (fun y => [⟨some bi, .mapIter (some mb) c y.seen c⟩, ⟨some bb, cl [.map (some mb)] 66⟩, ⟨some mb, .map es c⟩] ++ y.hj) (fun y => W.length - y.ys.length) (⟨#[], [], hj⟩) (⟨KsG.new ekW W es, h0⟩) leZ pqZ ?_)))
 rintro y ⟨hks, hJ⟩
 refine WCr (WLd Z (D_nextMap Z Z plZ mmZ hM.born) ?_)
 rintro _ _ (⟨rfl, rfl, hall⟩ | ⟨e, he, hns, rfl, rfl⟩)
 ·refine WLa Z (WL_set (s := 8) (v := .bool false) Z (by rfl) ?_)
  refine WL_nil (WQ_code (WC_seq (WC_F Z (WC_exit ?_))))
  refine WQ2 Z (by
    first | exact ⟨_, .inr ⟨_, hJ2⟩, rfl⟩ | exact ⟨_, .inl ⟨_, hks.done hM hall, hJ⟩, rfl⟩) pqZ
 ·refine WLa Z (WL_set (s := 8) (v := .bool true) Z (by rfl) ?_)
  refine WL_nil (WQ_code (WC_seq (WC_T Z (WC_skip (WQ_code (WC_block (WCr ?_)))))))
  obtain ⟨⟨k, v9⟩, hx, hek, hev⟩ := hM.back he
  dsimp only at hek hev
  obtain ⟨hmay, hks2⟩ := hks.next ekW_inj hM he hns hek
  have hgt : v9 = plW W k := (getT_in hM.nodup hx 0).symm
  refine WLv Z (R_entryMap Z Z mmZ mmZ he hM.bnd) ?_
  rw [hek, hev, hgt]
  refine WLa Z (WLa Z (WL_nil (WQ_code (WCr (WLa Z (WLa Z (WLd Z (D_yield (F := [_, _, _]) (hY y.ys k y.hj hmay hJ) Z Z Z Z (List.Perm.refl _)) ?_)))))))
  rintro _ _ ⟨hj2, (⟨rfl, hJ2⟩ | ⟨rfl, hJ2⟩), rfl⟩
  ·refine WLa Z (WL_nil (WQ_code (WC_F Z (WC_skip ?_))))
   refine WQ_nextH (gg := y) (⟨y.seen.push e.born, y.ys ++ [k], hj2⟩) (⟨hks2, hJ2⟩) (by have := hks2.len; rw [List.length_append, List.length_singleton] at this; dsimp only; rw [List.length_append, List.length_singleton]; omega) leZ (psZ) Z pqZ
  ·refine WLa Z (WL_nil (WQ_code (WC_T Z (WC_ret ?_))))
   refine WQ2 Z (by
     first | exact ⟨_, .inr ⟨_, hJ2⟩, rfl⟩ | exact ⟨_, .inl ⟨_, hks.done hM hall, hJ⟩, rfl⟩) pqZ
theorem xvals_ok (mb : Nat) : Spec Tryz.prog 44 [.map (some mb)] [] (fun r H' => ∃ bb, r = .func (.func 91) #[] #[.pointer (some ⟨bb, 0, none⟩)] ∧ H' = [⟨some bb, cl [.map (some mb)] 66⟩]) := by
 refine Spec.of (E := [(0, .map (some mb))]) Tryz.func44 rfl (by kernel_rfl) Tryz.ntmps44 rfl rfl (fun w => ?_)
 refine WCr (WLd Z (D_box (cs := [_]) Z Z Z) ?_)
 rintro _ _ ⟨b1, rfl, rfl⟩
 refine WLa Z (WL_nil (WQ_code (WCr (WLv Z (R_makeFunc Z Z Z) ?_))))
 refine WLa Z (WL_nil (WQ_code (WC_ret ?_)))
 refine WQ1 Z (by
   exact ⟨b1, rfl, rfl⟩) pqZ
theorem xapps_ok {W : List (Int × Nat)} (hl : W.length ≤ 1001) (bb mb : Nat) (es : Array MapEntry) (c : Nat) (hM : Mk ekW ptrS es c W) : Spec Tryz.prog 90 [.slice none 0 0, .func (.func 91) #[] #[.pointer (some ⟨bb, 0, none⟩)]] [⟨some bb, cl [.map (some mb)] 66⟩, ⟨some mb, .map es c⟩] (fun r H' => ∃ (xs : List Int) (o : Option Nat) (c2 : Nat) (tl : List Value), xs.Perm (W.map (·.1)) ∧ r = slV o xs.length c2 ∧ Own o xs.length c2 1 (ivsP (plW W) xs) tl ∧ H' = ⟨o, cl (ivsP (plW W) xs ++ tl) 87⟩ :: [⟨some bb, cl [.map (some mb)] 66⟩, ⟨some mb, .map es c⟩]) := by
 refine Spec.ofM (E := [(0, .slice none 0 0), (1, .func (.func 91) #[] #[.pointer (some ⟨bb, 0, none⟩)])]) Tryz.func90 rfl (by kernel_rfl) Tryz.ntmps90 rfl rfl (fun w => ?_)
 refine WCr (WLd Z (D_box (cs := [_]) Z Z Z) ?_)
 rintro _ _ ⟨b1, rfl, rfl⟩
 refine WLa Z (WL_nil (WQ_code (WC_seq (WCr (WLa Z (WL_nil (WQ_code (WC_block (WC_none 87 ?_)))))))))
 refine WC_rangeA (G := AsI) (GX := Unit) (xvit_ok bb mb es c hM) Z Z (fun _ => Z) Z (fun pre g => g.l = pre ∧ (pre.Nodup ∧ ∀ x ∈ pre, x ∈ W.map (·.1)) ∧ Own g.ob g.l.length g.c 1 (ivsP (plW W) g.l) g.tl) (fun g => [⟨some b1, cl [slV g.ob g.l.length g.c] 97⟩, ⟨g.ob, cl (ivsP (plW W) g.l ++ g.tl) 87⟩]) (fun _ _ _ => False) (fun _ => []) (⟨[], none, 0, []⟩) (⟨Z, ⟨.nil, fun x hx => by cases hx⟩, Own.empty 1⟩) pqZ pqZ ?_ ?_ ?_
 ·intro l pre x gg hx hI w2
  obtain ⟨hgl, ⟨hgn, hgs⟩, hgo⟩ := hI
  have hbl : gg.l.length ≤ 1001 := by rw [hgl]; have := pigeonG pre (W.map (·.1)) hgn hgs; rw [List.length_map] at this; omega
  refine WC_region (WLa Z (WL_nil ?_))
  refine WQ_begin (fun w3 => ?_)
  refine WC_block (WC_region (WLl Z sc97 mmZ Z (WLa Z (WLd Z (D_buildSlice Z si97 Z Z Z) ?_))))
  rintro _ _ ⟨b2, rfl, rfl⟩
  refine WLd Z (D_append Z si97 Z (hgo) plZ Z mmZ ((atZ : At _ 0 [_])) (Z) (Z) (by omega) (by omega)) ?_
  rintro _ _ ⟨ob3, cap3, tl3, rfl, own3, rfl⟩
  rw [show ivsP (plW W) gg.l ++ [ptrS (plW W x)] = ivsP (plW W) (gg.l ++ [x]) from by simp [ivsP], show gg.l.length + 1 = (gg.l ++ [x]).length from by simp] at own3 ⊢
  refine WLs (vs := [_]) Z Tryz.sizeOf97 Z Z plZ (nb Z) ?_
  refine WL_nil ?_
  refine WQ_rnd (⟨gg.l ++ [x], ob3, cap3, tl3⟩) ?_ pqZ
  exact (⟨by rw [← hgl], ⟨by rw [List.nodup_append]; exact ⟨hgn, by simp, fun a ha b hb => by rw [List.mem_singleton.1 hb]; rintro rfl; exact hx.2 ha⟩, fun y hy => by rcases List.mem_append.1 hy with hy | hy; exact hgs y hy; rw [List.mem_singleton.1 hy]; exact hx.1⟩, own3⟩)
 ·intro dl xs gg hall hI
  obtain ⟨hgl, _, hgo⟩ := hI
  subst hgl
  refine WQ_code (WCr (WLl Z sc97 mmZ Z (WLa Z (WL_nil (WQ_code (WC_ret ?_))))))
  refine WQ_retM Z plZ Z (.cons (.tmp Z) .nil) Z (by
    exact ⟨gg.l, gg.ob, gg.c, gg.tl, hall, rfl, hgo, rfl⟩) pqZ
 ·intro dl c pre gx hIx
  exact hIx.elim
theorem xcoll_ok {W : List (Int × Nat)} (hl : W.length ≤ 1001) (bb mb : Nat) (es : Array MapEntry) (c : Nat) (hM : Mk ekW ptrS es c W) : Spec Tryz.prog 43 [.func (.func 91) #[] #[.pointer (some ⟨bb, 0, none⟩)]] [⟨some bb, cl [.map (some mb)] 66⟩, ⟨some mb, .map es c⟩] (fun r H' => ∃ (xs : List Int) (o : Option Nat) (c2 : Nat) (tl : List Value), xs.Perm (W.map (·.1)) ∧ r = slV o xs.length c2 ∧ Own o xs.length c2 1 (ivsP (plW W) xs) tl ∧ H' = ⟨o, cl (ivsP (plW W) xs ++ tl) 87⟩ :: [⟨some bb, cl [.map (some mb)] 66⟩, ⟨some mb, .map es c⟩]) := by
 refine Spec.of (E := [(0, .func (.func 91) #[] #[.pointer (some ⟨bb, 0, none⟩)])]) Tryz.func43 rfl (by kernel_rfl) Tryz.ntmps43 rfl rfl (fun w => ?_)
 refine WCr (WLa Z (WL_nil (WQ_code (WCr (WLa Z (WLc Z (xapps_ok hl bb mb es c hM) Z pqZ ?_))))))
 rintro _ _ ⟨_, ⟨xs, o9, c9, tl9, hperm, rfl, own9, rfl⟩, rfl⟩
 refine WLa Z (WL_nil (WQ_code (WC_ret ?_)))
 refine WQ1 Z (by
   exact ⟨xs, o9, c9, tl9, hperm, rfl, own9, rfl⟩) pqZ
theorem xidxf_ok (pl : Int → Nat) (l : List Int) (o : Option Nat) (c : Nat) (tl : List Value) (own : Own o l.length c 1 (ivsP pl l) tl) (gf : Nat) (ca : List Value) (Hc : Heap) (p : Int → Bool) (hf : ∀ v ∈ l, Spec Tryz.prog gf (ptrS (pl v) :: ca) Hc (fun r H' => r = .bool (p v) ∧ Hc = H')) (hb : l.length ≤ 1000000) :
  Spec Tryz.prog 89 [slV o l.length c, .func (.func gf) #[] ca.toArray] (⟨o, cl (ivsP pl l ++ tl) 87⟩ :: Hc) (fun r H' => r = .int .i64 (idxF p l) ∧ H' = ⟨o, cl (ivsP pl l ++ tl) 87⟩ :: Hc) := by
 refine Spec.of (E := [(0, slV o l.length c), (1, .func (.func gf) #[] ca.toArray)]) Tryz.func89 rfl (by kernel_rfl) Tryz.ntmps89 rfl rfl (fun w => ?_)
 refine WCr (WLa Z (WL_nil (WQ_code (WC_seq (WCr (WLa Z (WLv Z (R_len Z Tryz.underlying97 Z) ?_)))))))
 refine WLa Z (WL_nil (WQ_code (WC_block (WC_loopF (G := Nat) [4, 5, 8, 9, 10, 11, 12, 13, 14, 15, 16, 17, 18] (fun k => k ≤ l.length ∧ ∀ v ∈ l.take k, p v = false) (fun k => [(8, .int .i64 (k : Int))]) (fun k => []) (fun k => l.length - k) (0) (⟨Nat.zero_le _, by simp⟩) leZ pqY ?_))))
 rintro k ⟨hk, hz⟩
 refine WCr (WLa Z (WL_nil (WQ_code (WC_seq ?_))))
 refine WC_dec Z (fun c1 => ?_) (fun c1 => ?_)
 ·refine WC_skip (WQ_code (WC_seq (WC_block (WCr (WLa Z (WLa Z (WL_nil (WQ_code (WCr ?_)))))))))
  obtain ⟨x, hx⟩ := getE (T := l) (i := k) (by omega)
  obtain ⟨wa, hwa⟩ := own.some_of (by omega)
  refine WLa Z (WLa Z (WLa Z (WLv Z (R_idxO hwa Z Tryz.underlying97 Tryz.sizeOf87 Z Z (by omega)) ?_)))
  refine WLv Z (R_loadO (v := ptrS (pl x)) hwa Z sc87 Z mmY (fm_get0 (encP1 pl) hx (j := 0) (by omega))) ?_
  refine WLc Z (hf x (List.mem_of_getElem? hx)) Z pqY ?_
  rintro _ _ ⟨_, ⟨rfl, rfl⟩, rfl⟩
  refine WL_nil (WQ_code ?_)
  refine WC_if Z (fun c2 => ?_) (fun c2 => ?_)
  ·have hc := c2
   refine WCr (WLa Z (WLa Z (WL_nil (WQ_code (WC_ret ?_)))))
   refine WQ1 Z (by
     exact ⟨congrArg (Value.int .i64) (idxF_hit hz hx hc).symm, rfl⟩) pqY
  ·have hc := c2
   refine WC_skip (WQ_code (WC_region (WLv Z (R_add Z Z Z (by omega)) ?_)))
   refine WLa Z (WL_nil ?_)
   refine WQ_nextF (k + 1) (⟨by omega, fun v hv => by rw [take_next hx] at hv; rcases List.mem_append.1 hv with hv | hv; exact hz v hv; rw [List.mem_singleton.1 hv]; exact hc⟩) (by omega) leZ (psZ) Z pqY
 ·have hkl : l.length ≤ k := by omega
  refine WC_exit (WQ_code (WCr (WLa Z (WL_nil (WQ_code (WC_ret ?_))))))
  refine WQ1 Z (by
    first | exact ⟨congrArg (Value.int .i64) (idxF_hit hz hx hc).symm, rfl⟩ | exact ⟨congrArg (Value.int .i64) (idxF_none (by rw [List.take_of_length_le hkl] at hz; exact hz)).symm, rfl⟩) pqY
theorem xdelf_none (pl : Int → Nat) (l : List Int) (o : Option Nat) (c : Nat) (tl : List Value) (own : Own o l.length c 1 (ivsP pl l) tl) (gf : Nat) (ca : List Value) (Hc : Heap) (p : Int → Bool) (hf : ∀ v ∈ l, Spec Tryz.prog gf (ptrS (pl v) :: ca) Hc (fun r H' => r = .bool (p v) ∧ Hc = H')) (hb : l.length ≤ 1000000) (hn : ∀ v ∈ l, p v = false) : Spec Tryz.prog 42 [slV o l.length c, .func (.func gf) #[] ca.toArray] (⟨o, cl (ivsP pl l ++ tl) 87⟩ :: Hc) (fun r H' => ∃ (n2 : Nat) (tl2 : List Value), n2 = (l.filter (fun v => !p v)).length ∧ r = slV o n2 c ∧ Own o n2 c 1 (ivsP pl (l.filter (fun v => !p v))) tl2 ∧ H' = ⟨o, cl (ivsP pl (l.filter (fun v => !p v)) ++ tl2) 87⟩ :: Hc) := by
 have hidx := idxF_none hn
 have hfl : l.filter (fun v => !p v) = l := List.filter_eq_self.2 fun v hv => by rw [hn v hv]; rfl
 rw [hfl]
 refine Spec.of (E := [(0, slV o l.length c), (1, .func (.func gf) #[] ca.toArray)]) Tryz.func42 rfl (by kernel_rfl) Tryz.ntmps42 rfl rfl (fun w => ?_)
 refine WCr (WLa Z (WL_nil (WQ_code (WCr (WLa Z (WLa Z (WLq Z (xidxf_ok pl l o c tl own gf ca Hc p hf hb) Z pqY ?_)))))))
 refine WLa Z (WL_nil (WQ_code (WC_seq (WCr (WLa Z (WLa Z (WL_nil (WQ_code (WC_dT Z (by exact hidx) ?_)))))))))
 refine WCr (WLa Z (WLa Z (WL_nil (WQ_code (WC_ret ?_)))))
 refine WQ1 Z (by
   exact ⟨_, tl, rfl, rfl, own, rfl⟩) pqY
theorem xdelf_some (pl : Int → Nat) (l : List Int) (o : Option Nat) (c : Nat) (tl : List Value) (own : Own o l.length c 1 (ivsP pl l) tl) (gf : Nat) (ca : List Value) (Hc : Heap) (p : Int → Bool) (hf : ∀ v ∈ l, Spec Tryz.prog gf (ptrS (pl v) :: ca) Hc (fun r H' => r = .bool (p v) ∧ Hc = H')) (hb : l.length ≤ 1000000) {k : Nat} {x0 : Int} (h0 : ∀ v ∈ l.take k, p v = false) (hx0 : l[k]? = some x0) (hp0 : p x0 = true) : Spec Tryz.prog 42 [slV o l.length c, .func (.func gf) #[] ca.toArray] (⟨o, cl (ivsP pl l ++ tl) 87⟩ :: Hc) (fun r H' => ∃ (n2 : Nat) (tl2 : List Value), n2 = (l.filter (fun v => !p v)).length ∧ r = slV o n2 c ∧ Own o n2 c 1 (ivsP pl (l.filter (fun v => !p v))) tl2 ∧ H' = ⟨o, cl (ivsP pl (l.filter (fun v => !p v)) ++ tl2) 87⟩ :: Hc) := by
 have hidx := idxF_hit h0 hx0 hp0
 have hkl := (List.getElem?_eq_some_iff.1 hx0).1
 have hlc := own.le
 obtain ⟨wa, rfl⟩ := own.some_of (by omega)
 have hfk : l.take k = (l.take (k + 1)).filter (fun v => !p v) := by rw [flt_next hx0, if_pos hp0, List.append_nil]; exact (List.filter_eq_self.2 fun v hv => by rw [h0 v hv]; rfl).symm
 have hstart : l = l.take k ++ ([x0] ++ l.drop (k + 1)) := by rw [List.singleton_append, ← drop_at hx0, List.take_append_drop]
 refine Spec.of (E := [(0, slV (some wa) l.length c), (1, .func (.func gf) #[] ca.toArray)]) Tryz.func42 rfl (by kernel_rfl) Tryz.ntmps42 rfl rfl (fun w => ?_)
 refine WCr (WLa Z (WL_nil (WQ_code (WCr (WLa Z (WLa Z (WLq Z (xidxf_ok pl l (some wa) c tl own gf ca Hc p hf hb) Z pqY ?_)))))))
 refine WLa Z (WL_nil (WQ_code (WC_seq (WCr (WLa Z (WLa Z (WL_nil (WQ_code (WC_dF Z (by rw [hidx]; omega) ?_)))))))))
 refine WC_skip (WQ_code (WC_seq (WCr (WLa Z (WLv Z (R_add Z Z Z (by omega)) ?_)))))
 refine WLa Z (WL_nil (WQ_code (WC_block (WC_set (s := 6) (v := .int .i64 ((k + 1 : Nat) : Int)) Z (by rw [hidx]; rfl) ?_))))
 refine WC_set (s := 5) (v := .int .i64 (((l.take k).length : Nat) : Int)) Z (by rw [hidx, List.length_take, Nat.min_eq_left (by omega)]) ?_
 rw [show cl (ivsP pl l ++ tl) 87 = cl (ivsP pl (l.take k ++ ([x0] ++ l.drop (k + 1))) ++ tl) 87 from by rw [← hstart]]
 refine WC_loopF (G := DelW) [5, 6, 7, 16, 17, 18, 19, 20, 21, 22, 23, 24, 25, 26, 27, 28, 29, 30, 31, 32, 33, 34, 35] (fun y => y.j ≤ l.length ∧ y.A = (l.take y.j).filter (fun v => !p v) ∧ y.A.length + y.J.length = y.j ∧ 1 ≤ y.J.length) (fun y => [(6, .int .i64 (y.j : Int)), (5, .int .i64 (y.A.length : Int))]) (fun y => [⟨some wa, cl (ivsP pl (y.A ++ (y.J ++ l.drop y.j)) ++ tl) 87⟩]) (fun y => l.length - y.j) (⟨k + 1, l.take k, [x0]⟩) (⟨by dsimp only; omega, hfk, by dsimp only; rw [List.length_take, Nat.min_eq_left (by omega)]; rfl, Nat.le_refl _⟩) leZ pqY ?_
 rintro y ⟨hj, hA, hAJ, hJ⟩
 refine WC_seq (WCr (WLa Z (WLa Z (WLv Z (R_len Z Tryz.underlying97 Z) ?_))))
 refine WLa Z (WL_nil (WQ_code ?_))
 refine WC_dec Z (fun c1 => ?_) (fun c1 => ?_)
 ·refine WC_skip (WQ_code (WC_seq (WC_block (WCr ?_))))
  obtain ⟨x, hx⟩ := getE (T := l) (i := y.j) (by omega)
  have hdx := drop_at hx
  have hxm : (y.A ++ (y.J ++ l.drop y.j))[y.j]? = some x := by rw [hdx]; exact mid_get hAJ
  refine WLa Z (WLa Z (WLv Z (R_indexAddrN Z Tryz.underlying97 Tryz.sizeOf87 Z Z (by omega)) ?_))
  refine WLv Z (R_load (v := ptrS (pl x)) Z sc87 Z mmY (fm_get0 (encP1 pl) hxm (j := 0) (by omega))) ?_
  refine WLa Z (WL_nil (WQ_code (WCr (WLa Z (WLa Z (WLc Z (hf x (List.mem_of_getElem? hx)) Z pqY ?_))))))
  rintro _ _ ⟨_, ⟨rfl, rfl⟩, rfl⟩
  refine WLa Z (WL_nil (WQ_code ?_))
  refine WC_if Z (fun c2 => ?_) (fun c2 => ?_)
  ·have hc : p x = false := by simpa using c2
   obtain ⟨y9, J2, hJ2⟩ : ∃ a b, y.J = a :: b := by cases hq : y.J with | nil => rw [hq] at hJ; simp at hJ | cons a b => exact ⟨a, b, rfl⟩
   have hset : (y.A ++ (y.J ++ l.drop y.j)).set y.A.length x = (y.A ++ [x]) ++ ((J2 ++ [x]) ++ l.drop (y.j + 1)) := by rw [hJ2, mid_set, hdx]; simp
   refine WCr (WLa Z (WLa Z (WLa Z (WLv Z (R_indexAddrN Z Tryz.underlying97 Tryz.sizeOf87 Z Z (by omega)) ?_))))
   refine WLs (vs := [_]) Z Tryz.sizeOf87 Z Z plY (by exact fm_room0 (encP1 pl) (show y.A.length < (y.A ++ (y.J ++ l.drop y.j)).length by rw [List.length_append, List.length_append]; omega) (j := 0) (by omega)) ?_
   have hput := fm_put0 (encP1 pl) x (show (y.A ++ (y.J ++ l.drop y.j))[y.A.length]? = some y9 by rw [hJ2]; exact mid_at) (j := 0) (vs := [ptrS (pl x)]) (by simp) rfl (tl := tl)
   rw [Nat.add_zero] at hput
   rw [show ivsP pl (y.A ++ (y.J ++ l.drop y.j)) = (y.A ++ (y.J ++ l.drop y.j)).flatMap (encP pl) from rfl, hput]
   refine WL_nil (WQ_code (WC_region (WLa Z (WLv Z (R_add Z Z Z (by omega)) ?_))))
   refine WL_set (s := 35) (v := .int .i64 (((y.A ++ [x]).length : Nat) : Int)) Z (by rw [List.length_append]; rfl) ?_
   refine WLa Z (WL_nil (WQ_code (WC_region (WLa Z (WLv Z (R_add Z Z Z (by omega)) ?_)))))
   refine WLa Z (WL_nil ?_)
   rw [hset]
   refine WQ_nextF (⟨y.j + 1, y.A ++ [x], J2 ++ [x]⟩) (⟨by dsimp only; omega, by dsimp only; rw [flt_next hx, if_neg (by rw [hc]; decide), ← hA], by dsimp only; rw [List.length_append, List.length_append]; simp only [List.length_cons, List.length_nil]; rw [hJ2] at hAJ; rw [List.length_cons] at hAJ; omega, by dsimp only; rw [List.length_append]; simp⟩) (by dsimp only; omega) leZ (psZ) Z pqY
  ·have hc : p x = true := by simpa using c2
   refine WC_skip (WQ_code (WC_region (WLa Z (WLv Z (R_add Z Z Z (by omega)) ?_))))
   refine WLa Z (WL_nil ?_)
   rw [show y.A ++ (y.J ++ l.drop y.j) = y.A ++ ((y.J ++ [x]) ++ l.drop (y.j + 1)) from by rw [hdx]; simp]
   refine WQ_nextF (⟨y.j + 1, y.A, y.J ++ [x]⟩) (⟨by dsimp only; omega, by dsimp only; rw [flt_next hx, if_pos hc, List.append_nil]; exact hA, by dsimp only; rw [List.length_append]; simp only [List.length_cons, List.length_nil]; omega, by dsimp only; rw [List.length_append]; omega⟩) (by dsimp only; omega) leZ (psZ) Z pqY
 ·have hjl : y.j = l.length := by omega
  have hdl : l.drop y.j = [] := by rw [hjl, List.drop_length]
  refine WC_exit (WQ_code (WCr (WLa Z (WLa Z (WLv Z (R_sliceFromK (m := y.A.length) Z Tryz.underlying97 Tryz.sizeOf87 Z Z (by omega)) ?_)))))
  rw [if_neg (by omega)]
  refine WL_do0 Z Z (D_clear Z si97 (fun v hv => by simp at hv; subst hv; rfl) Z plY (.inr (by rw [hdl, List.append_nil]; (show _ ≤ (ivsP pl (y.A ++ y.J) ++ tl).length); rw [List.length_append, ivsP_len, List.length_append]; omega))) ?_
  rintro _ _ ⟨ns, hns, rfl⟩
  rw [hdl, List.append_nil, show putAt (ivsP pl (y.A ++ y.J) ++ tl) (0 + y.A.length * 1) ns = ivsP pl y.A ++ (ns ++ tl) from by rw [show ivsP pl (y.A ++ y.J) = ivsP pl y.A ++ ivsP pl y.J from List.flatMap_append, List.append_assoc, show 0 + y.A.length * 1 = (ivsP pl y.A).length + 0 from by rw [ivsP_len]; omega, putAt_append, putAt_eq _ _ _ (by rw [List.length_append, ivsP_len]; omega)]; rw [List.take_zero, List.nil_append, Nat.zero_add, List.drop_append_of_le_length (by rw [ivsP_len]; omega), List.drop_of_length_le (by rw [ivsP_len]; omega), List.nil_append]]
  refine WL_nil (WQ_code (WCr (WLa Z (WLa Z (WLv Z (R_sliceTo (m := y.A.length) Z Tryz.underlying97 Tryz.sizeOf87 Z Z (by omega)) ?_)))))
  refine WLa Z (WL_nil (WQ_code (WC_ret ?_)))
  rw [hjl, List.take_length] at hA
  rw [← hA]
  refine WQ1 Z (by
    exact ⟨y.A.length, ns ++ tl, rfl, rfl, ⟨by rw [ivsP_len]; omega, by have h8 := own.cap; rw [ivsP_len] at h8 ⊢; rw [List.length_append]; omega, by omega, own.big, fun e => by cases e⟩, rfl⟩) pqY
theorem xdelf_ok (pl : Int → Nat) (l : List Int) (o : Option Nat) (c : Nat) (tl : List Value) (own : Own o l.length c 1 (ivsP pl l) tl) (gf : Nat) (ca : List Value) (Hc : Heap) (p : Int → Bool) (hf : ∀ v ∈ l, Spec Tryz.prog gf (ptrS (pl v) :: ca) Hc (fun r H' => r = .bool (p v) ∧ Hc = H')) (hb : l.length ≤ 1000000) : Spec Tryz.prog 42 [slV o l.length c, .func (.func gf) #[] ca.toArray] (⟨o, cl (ivsP pl l ++ tl) 87⟩ :: Hc) (fun r H' => ∃ (n2 : Nat) (tl2 : List Value), n2 = (l.filter (fun v => !p v)).length ∧ r = slV o n2 c ∧ Own o n2 c 1 (ivsP pl (l.filter (fun v => !p v))) tl2 ∧ H' = ⟨o, cl (ivsP pl (l.filter (fun v => !p v)) ++ tl2) 87⟩ :: Hc) := by
 by_cases hn : ∀ v ∈ l, p v = false
 ·exact xdelf_none pl l o c tl own gf ca Hc p hf hb hn
 ·have key : ∀ (l : List Int), ¬ (∀ v ∈ l, p v = false) → ∃ k x0, (∀ v ∈ l.take k, p v = false) ∧ l[k]? = some x0 ∧ p x0 = true := by
   intro l
   induction l with
   | nil => intro h; exact absurd (fun v hv => by cases hv) h
   | cons a r ih =>
    intro h
    cases hp : p a with
    | true => exact ⟨0, a, fun v hv => by simp at hv, rfl, hp⟩
    | false =>
     obtain ⟨k, x0, h1, h2, h3⟩ := ih fun hr => h fun v hv => by
      rcases List.mem_cons.1 hv with rfl | hv
      ·exact hp
      ·exact hr v hv
     refine ⟨k + 1, x0, fun v hv => ?_, by simpa using h2, h3⟩
     rw [List.take_succ_cons] at hv
     rcases List.mem_cons.1 hv with rfl | hv
     ·exact hp
     ·exact h1 v hv
  obtain ⟨k, x0, h1, h2, h3⟩ := key l hn
  exact xdelf_some pl l o c tl own gf ca Hc p hf hb h1 h2 h3
section
open Go.Shelf Go.RowKit Go.Lib Go.Sort
theorem hw_grow {Hc : Heap} {W W' : World} (h : HOK Hc W) (c : HW Hc W Hc W') : ∃ q os', W' = grow (W.drewN q) os' := by
  have hb := HW.belOf h c
  refine ⟨W'.drawn - W.drawn, W'.heap.extract W.heap.size W'.heap.size, ?_⟩
  have hheap : W'.heap = W.heap ++ W'.heap.extract W.heap.size W'.heap.size := by
    apply Array.ext_getElem?
    intro k
    rw [Array.getElem?_append]
    by_cases hk : k < W.heap.size
    · rw [if_pos hk]; exact hb.block k hk
    · rw [if_neg hk, Array.getElem?_extract]
      by_cases h2 : k < W'.heap.size
      · rw [if_pos (by omega)]; congr 1; omega
      · rw [if_neg (by omega), Array.getElem?_eq_none (by omega)]
  have hdr := c.dr
  obtain ⟨hp, tp, dr, os, out⟩ := W'
  obtain ⟨hp0, tp0, dr0, os0, out0⟩ := W
  have e1 := c.os
  have e2 := c.tape
  have e3 := c.output
  dsimp only at e1 e2 e3 hdr hheap
  subst e1 e2 e3
  simp only [grow, World.drewN, World.mk.injEq, true_and, and_true]
  exact ⟨hheap, by omega⟩
section
variable {α : Type} [Inhabited α] {enc : α → Value}
theorem holds_of {w : World} {b : Nat} {e : TypeId} {d : List α} {tl : List Value} (hb : w.heap[b]? = some (cl (d.map enc ++ tl) e)) : Holds enc w b 0 d.toArray := fun j hj => by
  have hj' : j < d.length := by simpa using hj
  have hg : (d.map enc ++ tl)[j]? = some (enc d[j]) := by rw [List.getElem?_append_left (by simpa using hj'), List.getElem?_map, List.getElem?_eq_getElem hj']; rfl
  refine ⟨?_, ?_⟩
  · simp only [World.cell?, hb, cl, Nat.zero_add, List.getElem?_toArray, hg]
    simp [hj']
  · simp [World.frozen?, hb, cl]
theorem sw_hw {Hc : Heap} {w : World} {b : Nat} {e : TypeId} {d d' : List α} {tl : List Value} (hw : HOK (⟨some b, cl (d.map enc ++ tl) e⟩ :: Hc) w) (hl : d'.length = d.length) (m : Nat) (os : Array Obj) :
    HW (⟨some b, cl (d.map enc ++ tl) e⟩ :: Hc) w (⟨some b, cl (d'.map enc ++ tl) e⟩ :: Hc) (sortWorld enc w b 0 m d'.toArray os) := by
  have hb : w.heap[b]? = some (cl (d.map enc ++ tl) e) := by
    have := hw.ok _ (List.mem_cons_self ..)
    simpa [Ent.ok] using this
  have hlt := (Array.getElem?_eq_some_iff.1 hb).1
  have hput : putCells enc 0 d'.toArray (d.map enc ++ tl).toArray = (d'.map enc ++ tl).toArray := by
    apply Array.ext_getElem?
    intro k
    simp only [putCells, Array.getElem?_mapIdx, List.getElem?_toArray]
    by_cases hk : k < d'.length
    · rw [List.getElem?_append_left (by simpa using (by omega : k < d.length)), List.getElem?_append_left (by simpa using hk), List.getElem?_map, List.getElem?_map, List.getElem?_eq_getElem (by omega : k < d.length), List.getElem?_eq_getElem hk]
      simp [hk]
    · rw [List.getElem?_append_right (by simp; omega), List.getElem?_append_right (by simp; omega)]
      simp only [List.length_map, hl]
      cases tl[k - d.length]? with
      | none => rfl
      | some v => simp [hk]
  have hsame : (sortWorld enc w b 0 m d'.toArray os).heap[b]? = some (cl (d'.map enc ++ tl) e) := by
    simp only [sortWorld, grow, putRow, mapBlock, Sort.ahead, Array.getElem?_append, Array.size_modify, hlt, if_true, Array.getElem?_modify, hb, Option.map_some, cl, onCells]
    rw [hput]
  have hother : ∀ k, k < w.heap.size → k ≠ b → (sortWorld enc w b 0 m d'.toArray os).heap[k]? = w.heap[k]? := fun k hk hne => by
    simp only [sortWorld, grow, putRow, mapBlock, Sort.ahead, Array.getElem?_append, Array.size_modify, hk, if_true, Array.getElem?_modify, if_neg (Ne.symm hne)]
  have hnd := hw.nodup
  simp only [keys, List.filterMap_cons, List.nodup_cons] at hnd
  refine ⟨⟨by simp only [keys, List.filterMap_cons, List.nodup_cons]; exact hnd, fun x hx => ?_⟩, rfl, rfl, rfl, ?_, fun k hk hn => ?_, fun k hk => .inl (by simpa [keys] using hk), ?_⟩
  · rcases List.mem_cons.1 hx with rfl | hx2
    · simpa [Ent.ok] using hsame
    · have h1 := hw.ok x (List.mem_cons_of_mem _ hx2)
      cases hxb : x.b with
      | none => simp only [Ent.ok, hxb] at h1 ⊢; exact h1
      | some c =>
        simp only [Ent.ok, hxb] at h1 ⊢
        have hne : c ≠ b := fun e => hnd.1 (by subst e; exact List.mem_filterMap.2 ⟨x, hx2, hxb⟩)
        rw [hother c (Array.getElem?_eq_some_iff.1 h1).1 hne]; exact h1
  · simp [sortWorld, grow, putRow, mapBlock, Sort.ahead]
  · exact hother k hk (fun e => hn (by subst e; simp [keys]))
  · simp [sortWorld, grow, putRow, mapBlock, Sort.ahead]
theorem sort_ok {P : Program} {ρ : Ren} (L : SlLaysF.n6 P ρ) (f : Nat) (hf : ρ.f 6 = f) (h1 : OneCell enc) (cf : α → α → Int) (hO : SWO (ltOf cf)) (g : Nat) (cb : List Value) (Hc : Heap)
    (hcmp : ∀ x y, Spec P g ([enc x, enc y] ++ cb) Hc (fun r H' => r = .int .i64 (cf x y) ∧ H' = Hc)) (hen : Enters P f) (b n c : Nat) (e : TypeId) (d : List α) (tl : List Value) (hn : d.length = n) (hsz : n < 4611686018427387904) :
    Spec P f [slV (some b) n c, .func (.func g) #[] cb.toArray] (⟨some b, cl (d.map enc ++ tl) e⟩ :: Hc)
      (fun r H' => ∃ d' : List α, r = .tuple #[] ∧ d'.Perm d ∧ d'.Pairwise (fun x y => ltOf cf y x = false) ∧ H' = ⟨some b, cl (d'.map enc ++ tl) e⟩ :: Hc) := by
  subst hf hn
  refine ⟨hen, fun w hw => callsIn_wide.2 ?_⟩
  have hb : w.heap[b]? = some (cl (d.map enc ++ tl) e) := by
    have := hw.ok _ (List.mem_cons_self ..)
    simpa [Ent.ok] using this
  have hlt := (Array.getElem?_eq_some_iff.1 hb).1
  have hc : CmpLays1 P g cb.toArray enc cf b 0 d.toArray.size w := fun m os dk hdk x y => by
    have hw2 := (sw_hw (d' := dk.toList) hw (by simpa using hdk) m os)
    simp only [Array.toArray_toList] at hw2
    have hok : HOK Hc (sortWorld enc w b 0 m dk os) := (hw2.perm (by simpa using (List.perm_append_comm (l₁ := [_]) (l₂ := Hc)))).left.hok
    have := callsIn_wide.1 ((hcmp x y).calls _ hok)
    rw [show (#[enc x, enc y] ++ cb.toArray : Array Value) = ([enc x, enc y] ++ cb).toArray from by simp]
    refine this.mono fun e w' ⟨v, H', e1, ⟨e2, e3⟩, e4⟩ => ⟨by rw [e1, e2], ?_⟩
    subst e3
    exact hw_grow hok e4
  have := Any.slices_SortFunc L enc h1 cf hO g cb.toArray b 0 c d.toArray w (hcmp default default).enters hc (holds_of hb) hlt (by simpa using hsz)
  refine this.mono fun e w' ⟨he, d', m, os, hp, hs, hwe⟩ => ?_
  obtain ⟨hs1, _, hp2⟩ := hp
  have hsz2 : d'.size = d.length := by simpa using hs1
  refine ⟨_, _, he, ⟨d'.toList, rfl, ?_, ?_, rfl⟩, ?_⟩
  · have e1 : d'.extract 0 d.toArray.size = d' := by simp [← hsz2]
    have e2 : d.toArray.extract 0 d.toArray.size = d.toArray := by simp
    rw [e1, e2] at hp2
    simpa using hp2
  · rw [List.pairwise_iff_getElem]
    intro i j hi hj hij
    have := hs i j (Nat.zero_le _) hij (by simpa [hsz2] using hj)
    have hi' : i < d'.size := by simpa using hi
    have hj' : j < d'.size := by simpa using hj
    simpa [hi', hj'] using this
  · rw [hwe]
    have := sw_hw (d' := d'.toList) hw (by simpa using hsz2) m os
    simpa only [Array.toArray_toList] using this
end
end
section
open Go.Shelf
def lysP_ren : Go.Shelf.Ren := ⟨fun | 6 => 46 | 14 => 92 | 15 => 93 | 20 => 135 | 21 => 136 | 22 => 137 | 23 => 138 | 24 => 139 | 25 => 140 | 26 => 141 | 27 => 142 | 28 => 143 | 29 => 144 | 46 => 173 | 47 => 174 | 48 => 175 | 49 => 176 | 50 => 177 | 57 => 183 | n => n, fun | 0 => 0 | 3 => 3 | 4 => 4 | 5 => 5 | 9 => 9 | 22 => 97 | 24 => 87 | 25 => 108 | 39 => 44 | 45 => 219 | 46 => 220 | 50 => 158 | 53 => 26 | 55 => 24 | 66 => 247 | 70 => 251 | 76 => 256 | 77 => 257 | n => n, fun n => n⟩
theorem lysP : SlLaysF.n6 Tryz.prog lysP_ren := {
 mixed := by kernel_rfl,
 f6 := ⟨Tryz.f46.name, by decide, Tryz.func46.trans (congrArg some (by kernel_rfl))⟩,
 f14 := ⟨Tryz.f92.name, by decide, Tryz.func92.trans (congrArg some (by kernel_rfl))⟩,
 f15 := Tryz.func93.trans (congrArg some (by kernel_rfl)),
 f20 := ⟨Tryz.f135.name, by decide, Tryz.func135.trans (congrArg some (by kernel_rfl))⟩,
 f21 := ⟨Tryz.f136.name, by decide, Tryz.func136.trans (congrArg some (by kernel_rfl))⟩,
 f22 := ⟨Tryz.f137.name, by decide, Tryz.func137.trans (congrArg some (by kernel_rfl))⟩,
 f23 := ⟨Tryz.f138.name, by decide, Tryz.func138.trans (congrArg some (by kernel_rfl))⟩,
 f24 := ⟨Tryz.f139.name, by decide, Tryz.func139.trans (congrArg some (by kernel_rfl))⟩,
 f25 := ⟨Tryz.f140.name, by decide, Tryz.func140.trans (congrArg some (by kernel_rfl))⟩,
 f26 := ⟨Tryz.f141.name, by decide, Tryz.func141.trans (congrArg some (by kernel_rfl))⟩,
 f27 := ⟨Tryz.f142.name, by decide, Tryz.func142.trans (congrArg some (by kernel_rfl))⟩,
 f28 := Tryz.func143.trans (congrArg some (by kernel_rfl)),
 f29 := Tryz.func144.trans (congrArg some (by kernel_rfl)),
 f46 := ⟨Tryz.f173.name, by decide, Tryz.func173.trans (congrArg some (by kernel_rfl))⟩,
 f47 := Tryz.func174.trans (congrArg some (by kernel_rfl)),
 f48 := Tryz.func175.trans (congrArg some (by kernel_rfl)),
 f49 := ⟨Tryz.f176.name, by decide, Tryz.func176.trans (congrArg some (by kernel_rfl))⟩,
 f50 := ⟨Tryz.f177.name, by decide, Tryz.func177.trans (congrArg some (by kernel_rfl))⟩,
 f57 := ⟨Tryz.f183.name, by decide, Tryz.func183.trans (congrArg some (by kernel_rfl))⟩,
 t0 := Tryz.underlying0,
 a0 := Tryz.isAgg0,
 z0 := Tryz.sizeOf0,
 v0 := Tryz.zeroValue0,
 t3 := Tryz.underlying3,
 a3 := Tryz.isAgg3,
 z3 := Tryz.sizeOf3,
 v3 := Tryz.zeroValue3,
 t4 := Tryz.underlying4,
 a4 := Tryz.isAgg4,
 z4 := Tryz.sizeOf4,
 v4 := Tryz.zeroValue4,
 t5 := Tryz.underlying5,
 a5 := Tryz.isAgg5,
 z5 := Tryz.sizeOf5,
 v5 := Tryz.zeroValue5,
 t9 := Tryz.underlying9,
 a9 := Tryz.isAgg9,
 z9 := Tryz.sizeOf9,
 v9 := Tryz.zeroValue9,
 t22 := Tryz.underlying97,
 a22 := Tryz.isAgg97,
 z22 := Tryz.sizeOf97,
 v22 := Tryz.zeroValue97,
 a24 := Tryz.isAgg87,
 z24 := Tryz.sizeOf87,
 t25 := Tryz.underlying108,
 a25 := Tryz.isAgg108,
 z25 := Tryz.sizeOf108,
 v25 := Tryz.zeroValue108,
 t39 := Tryz.underlying44,
 a39 := Tryz.isAgg44,
 z39 := Tryz.sizeOf44,
 v39 := Tryz.zeroValue44,
 t45 := Tryz.underlying219,
 a45 := Tryz.isAgg219,
 z45 := Tryz.sizeOf219,
 v45 := Tryz.zeroValue219,
 t46 := Tryz.underlying220,
 a46 := Tryz.isAgg220,
 z46 := Tryz.sizeOf220,
 v46 := Tryz.zeroValue220,
 t50 := Tryz.underlying158,
 a50 := Tryz.isAgg158,
 z50 := Tryz.sizeOf158,
 v50 := Tryz.zeroValue158,
 t53 := Tryz.underlying26,
 a53 := Tryz.isAgg26,
 z53 := Tryz.sizeOf26,
 v53 := Tryz.zeroValue26,
 t55 := Tryz.underlying24,
 a55 := Tryz.isAgg24,
 z55 := Tryz.sizeOf24,
 v55 := Tryz.zeroValue24,
 t66 := Tryz.underlying247,
 a66 := Tryz.isAgg247,
 z66 := Tryz.sizeOf247,
 v66 := Tryz.zeroValue247,
 t70 := Tryz.underlying251,
 a70 := Tryz.isAgg251,
 z70 := Tryz.sizeOf251,
 v70 := Tryz.zeroValue251,
 t76 := Tryz.underlying256,
 a76 := Tryz.isAgg256,
 z76 := Tryz.sizeOf256,
 v76 := Tryz.zeroValue256,
 t77 := Tryz.underlying257,
 a77 := Tryz.isAgg257,
 z77 := Tryz.sizeOf257,
 v77 := Tryz.zeroValue257 }
end
section
open Go.Shelf Go.RowKit Go.Lib Go.Sort
section
variable {α : Type} [Inhabited α] {enc : α → List Value} {k : Nat}
end
theorem sort_none {P : Program} {ρ : Ren} (L : SlLaysF0.n6 P ρ) (f : Nat) (hf : ρ.f 6 = f) (hen : Enters P f) (ob : Option Nat) (c : Nat) (fv : Value) : Spec P f [slV ob 0 c, fv] [] (fun r H' => r = .tuple #[] ∧ H' = []) := by
  subst hf
  refine ⟨hen, fun w hw => callsIn_wide.2 ?_⟩
  have h : ∀ p, Calls P (ρ.f 6) #[.slice p 0 c, fv] w fun e w' => e = .returned (.tuple #[]) ∧ w' = w := fun p => AnyF.slices_SortFunc_none L p c fv w
  cases ob with
  | none => exact (h none).mono fun e w' ⟨e1, e2⟩ => ⟨_, _, e1, ⟨rfl, rfl⟩, by rw [e2]; exact HW.start hw⟩
  | some b => exact (h (some ⟨b, 0, none⟩)).mono fun e w' ⟨e1, e2⟩ => ⟨_, _, e1, ⟨rfl, rfl⟩, by rw [e2]; exact HW.start hw⟩
end
section
open Go.Shelf
def lysQ_ren : Go.Shelf.Ren := ⟨fun | 6 => 46 | 14 => 92 | 15 => 93 | 20 => 135 | 21 => 136 | 22 => 137 | 23 => 138 | 24 => 139 | 25 => 140 | 26 => 141 | 27 => 142 | 28 => 143 | 29 => 144 | 46 => 173 | 47 => 174 | 48 => 175 | 49 => 176 | 50 => 177 | 57 => 183 | n => n, fun | 0 => 0 | 3 => 3 | 4 => 4 | 5 => 5 | 9 => 9 | 22 => 97 | 24 => 87 | 25 => 108 | 39 => 44 | 45 => 219 | 46 => 220 | 50 => 158 | 53 => 26 | 55 => 24 | 66 => 247 | 70 => 251 | 76 => 256 | 77 => 257 | n => n, fun n => n⟩
theorem lysQ : SlLaysF0.n6 Tryz.prog lysQ_ren := {
 mixed := by kernel_rfl,
 f6 := ⟨Tryz.f46.name, by decide, Tryz.func46.trans (congrArg some (by kernel_rfl))⟩,
 f14 := ⟨Tryz.f92.name, by decide, Tryz.func92.trans (congrArg some (by kernel_rfl))⟩,
 f15 := Tryz.func93.trans (congrArg some (by kernel_rfl)),
 f20 := ⟨Tryz.f135.name, by decide, Tryz.func135.trans (congrArg some (by kernel_rfl))⟩,
 f21 := ⟨Tryz.f136.name, by decide, Tryz.func136.trans (congrArg some (by kernel_rfl))⟩,
 f22 := ⟨Tryz.f137.name, by decide, Tryz.func137.trans (congrArg some (by kernel_rfl))⟩,
 f23 := ⟨Tryz.f138.name, by decide, Tryz.func138.trans (congrArg some (by kernel_rfl))⟩,
 f24 := ⟨Tryz.f139.name, by decide, Tryz.func139.trans (congrArg some (by kernel_rfl))⟩,
 f25 := ⟨Tryz.f140.name, by decide, Tryz.func140.trans (congrArg some (by kernel_rfl))⟩,
 f26 := ⟨Tryz.f141.name, by decide, Tryz.func141.trans (congrArg some (by kernel_rfl))⟩,
 f27 := ⟨Tryz.f142.name, by decide, Tryz.func142.trans (congrArg some (by kernel_rfl))⟩,
 f28 := Tryz.func143.trans (congrArg some (by kernel_rfl)),
 f29 := Tryz.func144.trans (congrArg some (by kernel_rfl)),
 f46 := ⟨Tryz.f173.name, by decide, Tryz.func173.trans (congrArg some (by kernel_rfl))⟩,
 f47 := Tryz.func174.trans (congrArg some (by kernel_rfl)),
 f48 := Tryz.func175.trans (congrArg some (by kernel_rfl)),
 f49 := ⟨Tryz.f176.name, by decide, Tryz.func176.trans (congrArg some (by kernel_rfl))⟩,
 f50 := ⟨Tryz.f177.name, by decide, Tryz.func177.trans (congrArg some (by kernel_rfl))⟩,
 f57 := ⟨Tryz.f183.name, by decide, Tryz.func183.trans (congrArg some (by kernel_rfl))⟩,
 t0 := Tryz.underlying0,
 a0 := Tryz.isAgg0,
 z0 := Tryz.sizeOf0,
 v0 := Tryz.zeroValue0,
 t3 := Tryz.underlying3,
 a3 := Tryz.isAgg3,
 z3 := Tryz.sizeOf3,
 v3 := Tryz.zeroValue3,
 t4 := Tryz.underlying4,
 a4 := Tryz.isAgg4,
 z4 := Tryz.sizeOf4,
 v4 := Tryz.zeroValue4,
 t5 := Tryz.underlying5,
 a5 := Tryz.isAgg5,
 z5 := Tryz.sizeOf5,
 v5 := Tryz.zeroValue5,
 t9 := Tryz.underlying9,
 a9 := Tryz.isAgg9,
 z9 := Tryz.sizeOf9,
 v9 := Tryz.zeroValue9,
 t22 := Tryz.underlying97,
 a22 := Tryz.isAgg97,
 z22 := Tryz.sizeOf97,
 v22 := Tryz.zeroValue97,
 t25 := Tryz.underlying108,
 a25 := Tryz.isAgg108,
 z25 := Tryz.sizeOf108,
 v25 := Tryz.zeroValue108,
 t39 := Tryz.underlying44,
 a39 := Tryz.isAgg44,
 z39 := Tryz.sizeOf44,
 v39 := Tryz.zeroValue44,
 t45 := Tryz.underlying219,
 a45 := Tryz.isAgg219,
 z45 := Tryz.sizeOf219,
 v45 := Tryz.zeroValue219,
 t46 := Tryz.underlying220,
 a46 := Tryz.isAgg220,
 z46 := Tryz.sizeOf220,
 v46 := Tryz.zeroValue220,
 t50 := Tryz.underlying158,
 a50 := Tryz.isAgg158,
 z50 := Tryz.sizeOf158,
 v50 := Tryz.zeroValue158,
 t53 := Tryz.underlying26,
 a53 := Tryz.isAgg26,
 z53 := Tryz.sizeOf26,
 v53 := Tryz.zeroValue26,
 t55 := Tryz.underlying24,
 a55 := Tryz.isAgg24,
 z55 := Tryz.sizeOf24,
 v55 := Tryz.zeroValue24,
 t66 := Tryz.underlying247,
 a66 := Tryz.isAgg247,
 z66 := Tryz.sizeOf247,
 v66 := Tryz.zeroValue247,
 t70 := Tryz.underlying251,
 a70 := Tryz.isAgg251,
 z70 := Tryz.sizeOf251,
 v70 := Tryz.zeroValue251,
 t76 := Tryz.underlying256,
 a76 := Tryz.isAgg256,
 z76 := Tryz.sizeOf256,
 v76 := Tryz.zeroValue256,
 t77 := Tryz.underlying257,
 a77 := Tryz.isAgg257,
 z77 := Tryz.sizeOf257,
 v77 := Tryz.zeroValue257 }
end
section
open Go.Shelf
def lysF_ren : Go.Shelf.Ren := ⟨fun | 6 => 82 | 14 => 131 | 15 => 93 | 20 => 164 | 21 => 165 | 22 => 166 | 23 => 167 | 24 => 168 | 25 => 169 | 26 => 170 | 27 => 171 | 28 => 143 | 29 => 144 | 46 => 179 | 47 => 174 | 48 => 175 | 49 => 180 | 50 => 181 | 57 => 184 | n => n, fun | 0 => 0 | 3 => 3 | 4 => 4 | 5 => 5 | 9 => 9 | 22 => 23 | 24 => 3 | 25 => 107 | 39 => 44 | 45 => 219 | 46 => 220 | 50 => 158 | 53 => 26 | 55 => 24 | 66 => 247 | 70 => 251 | 76 => 256 | 77 => 257 | n => n, fun n => n⟩
theorem lysF : SlLaysF.n6 Tryz.prog lysF_ren := {
 mixed := by kernel_rfl,
 f6 := ⟨Tryz.f82.name, by decide, Tryz.func82.trans (congrArg some (by kernel_rfl))⟩,
 f14 := ⟨Tryz.f131.name, by decide, Tryz.func131.trans (congrArg some (by kernel_rfl))⟩,
 f15 := Tryz.func93.trans (congrArg some (by kernel_rfl)),
 f20 := ⟨Tryz.f164.name, by decide, Tryz.func164.trans (congrArg some (by kernel_rfl))⟩,
 f21 := ⟨Tryz.f165.name, by decide, Tryz.func165.trans (congrArg some (by kernel_rfl))⟩,
 f22 := ⟨Tryz.f166.name, by decide, Tryz.func166.trans (congrArg some (by kernel_rfl))⟩,
 f23 := ⟨Tryz.f167.name, by decide, Tryz.func167.trans (congrArg some (by kernel_rfl))⟩,
 f24 := ⟨Tryz.f168.name, by decide, Tryz.func168.trans (congrArg some (by kernel_rfl))⟩,
 f25 := ⟨Tryz.f169.name, by decide, Tryz.func169.trans (congrArg some (by kernel_rfl))⟩,
 f26 := ⟨Tryz.f170.name, by decide, Tryz.func170.trans (congrArg some (by kernel_rfl))⟩,
 f27 := ⟨Tryz.f171.name, by decide, Tryz.func171.trans (congrArg some (by kernel_rfl))⟩,
 f28 := Tryz.func143.trans (congrArg some (by kernel_rfl)),
 f29 := Tryz.func144.trans (congrArg some (by kernel_rfl)),
 f46 := ⟨Tryz.f179.name, by decide, Tryz.func179.trans (congrArg some (by kernel_rfl))⟩,
 f47 := Tryz.func174.trans (congrArg some (by kernel_rfl)),
 f48 := Tryz.func175.trans (congrArg some (by kernel_rfl)),
 f49 := ⟨Tryz.f180.name, by decide, Tryz.func180.trans (congrArg some (by kernel_rfl))⟩,
 f50 := ⟨Tryz.f181.name, by decide, Tryz.func181.trans (congrArg some (by kernel_rfl))⟩,
 f57 := ⟨Tryz.f184.name, by decide, Tryz.func184.trans (congrArg some (by kernel_rfl))⟩,
 t0 := Tryz.underlying0,
 a0 := Tryz.isAgg0,
 z0 := Tryz.sizeOf0,
 v0 := Tryz.zeroValue0,
 t3 := Tryz.underlying3,
 a3 := Tryz.isAgg3,
 z3 := Tryz.sizeOf3,
 v3 := Tryz.zeroValue3,
 t4 := Tryz.underlying4,
 a4 := Tryz.isAgg4,
 z4 := Tryz.sizeOf4,
 v4 := Tryz.zeroValue4,
 t5 := Tryz.underlying5,
 a5 := Tryz.isAgg5,
 z5 := Tryz.sizeOf5,
 v5 := Tryz.zeroValue5,
 t9 := Tryz.underlying9,
 a9 := Tryz.isAgg9,
 z9 := Tryz.sizeOf9,
 v9 := Tryz.zeroValue9,
 t22 := Tryz.underlying23,
 a22 := Tryz.isAgg23,
 z22 := Tryz.sizeOf23,
 v22 := Tryz.zeroValue23,
 a24 := Tryz.isAgg3,
 z24 := Tryz.sizeOf3,
 t25 := Tryz.underlying107,
 a25 := Tryz.isAgg107,
 z25 := Tryz.sizeOf107,
 v25 := Tryz.zeroValue107,
 t39 := Tryz.underlying44,
 a39 := Tryz.isAgg44,
 z39 := Tryz.sizeOf44,
 v39 := Tryz.zeroValue44,
 t45 := Tryz.underlying219,
 a45 := Tryz.isAgg219,
 z45 := Tryz.sizeOf219,
 v45 := Tryz.zeroValue219,
 t46 := Tryz.underlying220,
 a46 := Tryz.isAgg220,
 z46 := Tryz.sizeOf220,
 v46 := Tryz.zeroValue220,
 t50 := Tryz.underlying158,
 a50 := Tryz.isAgg158,
 z50 := Tryz.sizeOf158,
 v50 := Tryz.zeroValue158,
 t53 := Tryz.underlying26,
 a53 := Tryz.isAgg26,
 z53 := Tryz.sizeOf26,
 v53 := Tryz.zeroValue26,
 t55 := Tryz.underlying24,
 a55 := Tryz.isAgg24,
 z55 := Tryz.sizeOf24,
 v55 := Tryz.zeroValue24,
 t66 := Tryz.underlying247,
 a66 := Tryz.isAgg247,
 z66 := Tryz.sizeOf247,
 v66 := Tryz.zeroValue247,
 t70 := Tryz.underlying251,
 a70 := Tryz.isAgg251,
 z70 := Tryz.sizeOf251,
 v70 := Tryz.zeroValue251,
 t76 := Tryz.underlying256,
 a76 := Tryz.isAgg256,
 z76 := Tryz.sizeOf256,
 v76 := Tryz.zeroValue256,
 t77 := Tryz.underlying257,
 a77 := Tryz.isAgg257,
 z77 := Tryz.sizeOf257,
 v77 := Tryz.zeroValue257 }
end
section
open Go.Shelf
def lysZ_ren : Go.Shelf.Ren := ⟨fun | 6 => 82 | 14 => 131 | 15 => 93 | 20 => 164 | 21 => 165 | 22 => 166 | 23 => 167 | 24 => 168 | 25 => 169 | 26 => 170 | 27 => 171 | 28 => 143 | 29 => 144 | 46 => 179 | 47 => 174 | 48 => 175 | 49 => 180 | 50 => 181 | 57 => 184 | n => n, fun | 0 => 0 | 3 => 3 | 4 => 4 | 5 => 5 | 9 => 9 | 22 => 23 | 24 => 3 | 25 => 107 | 39 => 44 | 45 => 219 | 46 => 220 | 50 => 158 | 53 => 26 | 55 => 24 | 66 => 247 | 70 => 251 | 76 => 256 | 77 => 257 | n => n, fun n => n⟩
theorem lysZ : SlLaysF0.n6 Tryz.prog lysZ_ren := {
 mixed := by kernel_rfl,
 f6 := ⟨Tryz.f82.name, by decide, Tryz.func82.trans (congrArg some (by kernel_rfl))⟩,
 f14 := ⟨Tryz.f131.name, by decide, Tryz.func131.trans (congrArg some (by kernel_rfl))⟩,
 f15 := Tryz.func93.trans (congrArg some (by kernel_rfl)),
 f20 := ⟨Tryz.f164.name, by decide, Tryz.func164.trans (congrArg some (by kernel_rfl))⟩,
 f21 := ⟨Tryz.f165.name, by decide, Tryz.func165.trans (congrArg some (by kernel_rfl))⟩,
 f22 := ⟨Tryz.f166.name, by decide, Tryz.func166.trans (congrArg some (by kernel_rfl))⟩,
 f23 := ⟨Tryz.f167.name, by decide, Tryz.func167.trans (congrArg some (by kernel_rfl))⟩,
 f24 := ⟨Tryz.f168.name, by decide, Tryz.func168.trans (congrArg some (by kernel_rfl))⟩,
 f25 := ⟨Tryz.f169.name, by decide, Tryz.func169.trans (congrArg some (by kernel_rfl))⟩,
 f26 := ⟨Tryz.f170.name, by decide, Tryz.func170.trans (congrArg some (by kernel_rfl))⟩,
 f27 := ⟨Tryz.f171.name, by decide, Tryz.func171.trans (congrArg some (by kernel_rfl))⟩,
 f28 := Tryz.func143.trans (congrArg some (by kernel_rfl)),
 f29 := Tryz.func144.trans (congrArg some (by kernel_rfl)),
 f46 := ⟨Tryz.f179.name, by decide, Tryz.func179.trans (congrArg some (by kernel_rfl))⟩,
 f47 := Tryz.func174.trans (congrArg some (by kernel_rfl)),
 f48 := Tryz.func175.trans (congrArg some (by kernel_rfl)),
 f49 := ⟨Tryz.f180.name, by decide, Tryz.func180.trans (congrArg some (by kernel_rfl))⟩,
 f50 := ⟨Tryz.f181.name, by decide, Tryz.func181.trans (congrArg some (by kernel_rfl))⟩,
 f57 := ⟨Tryz.f184.name, by decide, Tryz.func184.trans (congrArg some (by kernel_rfl))⟩,
 t0 := Tryz.underlying0,
 a0 := Tryz.isAgg0,
 z0 := Tryz.sizeOf0,
 v0 := Tryz.zeroValue0,
 t3 := Tryz.underlying3,
 a3 := Tryz.isAgg3,
 z3 := Tryz.sizeOf3,
 v3 := Tryz.zeroValue3,
 t4 := Tryz.underlying4,
 a4 := Tryz.isAgg4,
 z4 := Tryz.sizeOf4,
 v4 := Tryz.zeroValue4,
 t5 := Tryz.underlying5,
 a5 := Tryz.isAgg5,
 z5 := Tryz.sizeOf5,
 v5 := Tryz.zeroValue5,
 t9 := Tryz.underlying9,
 a9 := Tryz.isAgg9,
 z9 := Tryz.sizeOf9,
 v9 := Tryz.zeroValue9,
 t22 := Tryz.underlying23,
 a22 := Tryz.isAgg23,
 z22 := Tryz.sizeOf23,
 v22 := Tryz.zeroValue23,
 t25 := Tryz.underlying107,
 a25 := Tryz.isAgg107,
 z25 := Tryz.sizeOf107,
 v25 := Tryz.zeroValue107,
 t39 := Tryz.underlying44,
 a39 := Tryz.isAgg44,
 z39 := Tryz.sizeOf44,
 v39 := Tryz.zeroValue44,
 t45 := Tryz.underlying219,
 a45 := Tryz.isAgg219,
 z45 := Tryz.sizeOf219,
 v45 := Tryz.zeroValue219,
 t46 := Tryz.underlying220,
 a46 := Tryz.isAgg220,
 z46 := Tryz.sizeOf220,
 v46 := Tryz.zeroValue220,
 t50 := Tryz.underlying158,
 a50 := Tryz.isAgg158,
 z50 := Tryz.sizeOf158,
 v50 := Tryz.zeroValue158,
 t53 := Tryz.underlying26,
 a53 := Tryz.isAgg26,
 z53 := Tryz.sizeOf26,
 v53 := Tryz.zeroValue26,
 t55 := Tryz.underlying24,
 a55 := Tryz.isAgg24,
 z55 := Tryz.sizeOf24,
 v55 := Tryz.zeroValue24,
 t66 := Tryz.underlying247,
 a66 := Tryz.isAgg247,
 z66 := Tryz.sizeOf247,
 v66 := Tryz.zeroValue247,
 t70 := Tryz.underlying251,
 a70 := Tryz.isAgg251,
 z70 := Tryz.sizeOf251,
 v70 := Tryz.zeroValue251,
 t76 := Tryz.underlying256,
 a76 := Tryz.isAgg256,
 z76 := Tryz.sizeOf256,
 v76 := Tryz.zeroValue256,
 t77 := Tryz.underlying257,
 a77 := Tryz.isAgg257,
 z77 := Tryz.sizeOf257,
 v77 := Tryz.zeroValue257 }
end
section
open Go.Shelf Go.RowKit Go.Lib Go.Sort
theorem ivs_map (l : List Int) : ivs l = l.map (fun v => Value.int .i64 v) := by
 unfold ivs
 induction l with
 | nil => rfl
 | cons a r ih => rw [List.flatMap_cons, ih]; rfl
theorem lateC_swo (Q : List Qp) : Go.Sort.SWO (ltOf (lateC Q)) := by
 refine ⟨fun x => ?_, fun x y z h1 h2 => ?_, fun x y z h1 h2 => ?_⟩
 ·simp only [ltOf, decide_eq_false_iff_not, lateC, lexI_lt]; omega
 ·simp only [ltOf, decide_eq_true_eq, lateC, lexI_lt] at *; omega
 ·simp only [ltOf, decide_eq_false_iff_not, lateC, lexI_lt] at *; omega
theorem psort_ok {m : PM} {s : PS} (h : PIs m s) (b2 : Nat) (l : List Int) (hl : l.length ≤ 1000000) (o : Option Nat) (c : Nat) (tl : List Value) (own : Own o l.length c 1 (ivs l) tl) : Spec Tryz.prog 82 [slV o l.length c, .func (.func 83) #[] #[.pointer (some ⟨b2, 0, none⟩)]] (⟨o, cl (ivs l ++ tl) 3⟩ :: [⟨some b2, cl [ptrP m.p] 79⟩, poP m s, poW m])
  (fun r H' => ∃ l' : List Int, r = .tuple #[] ∧ l'.Perm l ∧ l'.Pairwise (fun a b => ¬ lateC s.Q b a < 0) ∧ H' = ⟨o, cl (ivs l' ++ tl) 3⟩ :: [⟨some b2, cl [ptrP m.p] 79⟩, poP m s, poW m]) := by
 by_cases h0 : l = []
 ·subst h0
  have hn := sort_none lysZ 82 rfl (Enters.mk Tryz.func82 rfl rfl) o c (.func (.func 83) #[] #[.pointer (some ⟨b2, 0, none⟩)])
  exact (hn.fr (⟨o, cl (ivs [] ++ tl) 3⟩ :: [⟨some b2, cl [ptrP m.p] 79⟩, poP m s, poW m])).mono fun r H' ⟨H1, ⟨e1, e2⟩, e3⟩ => ⟨[], e1, .refl _, .nil, by rw [e3, e2]; rfl⟩
 ·obtain ⟨b, rfl⟩ := own.some_of (List.length_pos_iff.2 h0)
  have hs := sort_ok (enc := fun v : Int => Value.int .i64 v) lysF 82 rfl (fun _ => rfl) (lateC s.Q) (lateC_swo s.Q) 83 [.pointer (some ⟨b2, 0, none⟩)] [⟨some b2, cl [ptrP m.p] 79⟩, poP m s, poW m] (fun x y => padv2_ok h b2 x y) (Enters.mk Tryz.func82 rfl rfl) b l.length c 3 l tl rfl (by omega)
  rw [← ivs_map] at hs
  refine hs.mono fun r H' ⟨d', e1, e2, e3, e4⟩ => ⟨d', e1, e2, e3.imp fun {a b} h => by simpa only [ltOf, decide_eq_false_iff_not] using h, by rw [ivs_map]; exact e4⟩
end
section
open Go.Shelf Go.RowKit Go.Lib Go.Sort
def sesK (S : List Ss) (k : Int) : Ss := (S.find? (fun s => decide (s.num = k))).getD ⟨0, ByteArray.empty, 0, 0, 0, 0, 0, 0, 0, 0⟩
theorem sesK_at {S : List Ss} (hn : (S.map (·.num)).Nodup) {s : Ss} (hs : s ∈ S) : sesK S s.num = s := by unfold sesK; rw [find_num hn hs]; rfl
theorem plW_at {S : List Ss} (hn : (S.map (·.num)).Nodup) {s : Ss} (hs : s ∈ S) : plW (sesM S) s.num = s.p :=
 getT_in (by rw [sesM_keys]; exact hn) (List.mem_map_of_mem (f := fun s : Ss => (s.num, s.p)) hs) 0
def tilC (S : List Ss) (a b : Int) : Int := lexI ((sesK S a).til : Int) ((sesK S b).til : Int) a b
def lateS (S : List Ss) (now : Nat) (k : Int) : Bool := decide ((sesK S k).st ≠ 1 ∨ now < (sesK S k).til)
theorem xcmp_ok {S : List Ss} {a b : Ss} (ha : a ∈ S) (hb : b ∈ S) : Spec Tryz.prog 47 [ptrS a.p, ptrS b.p] (ssH S) (fun r H' => r = .int .i64 (lexI (a.til : Int) (b.til : Int) a.num b.num) ∧ H' = ssH S) := by
 have hma : seE a ∈ ssH S := List.mem_map_of_mem ha
 have hmb : seE b ∈ ssH S := List.mem_map_of_mem hb
 refine Spec.of (E := [(0, ptrS a.p), (1, ptrS b.p)]) Tryz.func47 rfl (by kernel_rfl) Tryz.ntmps47 rfl rfl (fun w => ?_)
 refine WCr (WLa Z (WL_nil (WQ_code (WC_seq (WC_draw _ [(0, true), (1, true), (2, true), (3, true), (4, true), (5, true), (6, true), (7, true), (8, true), (9, true), (10, true), (11, true), (12, true), (13, true), (14, true), (15, true), (16, true), (17, true), (18, false), (19, false), (20, true)] followsMixed Z Z (by kernel_rfl) .all ?_)))))
 refine WMa Z (WMa Z (WMf Z fa90_5 (WMv Z (R_load (v := .int .u64 (a.til : Int)) Z sc25 Z (by first | exact hma | exact List.mem_cons_of_mem _ hma | exact List.mem_append_left _ hma | exact List.mem_append_right _ hma) Z) ?_)))
 refine WMa Z (WMa Z (WMf Z fa90_5 (WMv Z (R_load (v := .int .u64 (b.til : Int)) Z sc25 Z (by first | exact hmb | exact List.mem_cons_of_mem _ hmb | exact List.mem_append_left _ hmb | exact List.mem_append_right _ hmb) Z) ?_)))
 refine WM_call Z (Spec.quiet (cmpt_ok _ _)) Z Z Z Z Z Z Z pqD ?_
 refine WMa Z (WMa Z (WMf Z fa90_0 (WMv Z (R_load (v := .int .i64 a.num) Z sc3 Z (by first | exact hma | exact List.mem_cons_of_mem _ hma | exact List.mem_append_left _ hma | exact List.mem_append_right _ hma) Z) ?_)))
 refine WMa Z (WMa Z (WMf Z fa90_0 (WMv Z (R_load (v := .int .i64 b.num) Z sc3 Z (by first | exact hmb | exact List.mem_cons_of_mem _ hmb | exact List.mem_append_left _ hmb | exact List.mem_append_right _ hmb) Z) ?_)))
 refine WM_call Z (Spec.quiet (cmpi_ok _ _)) Z Z Z Z Z Z Z pqD ?_
 refine WMd Z (D_buildSlice Z si23 Z Z Z) ?_
 rintro _ _ ⟨b1, rfl, rfl⟩
 refine ⟨⟨_, pqD⟩, ?_⟩
 refine WMd Z (D_call (cor_ok [cmpI (a.til : Int) (b.til : Int), cmpI a.num b.num] (nb Z) _ _ [] (own_litP _ _ (nb Z))) Z Z Z Z pqD) ?_
 rintro _ _ ⟨_, ⟨rfl, rfl⟩, rfl⟩
 refine ⟨⟨_, pqD⟩, ?_⟩
 refine WMa Z (WM_nil (WQ_code (WC_ret ?_)))
 refine WQ1 Z (by
   exact ⟨rfl, rfl⟩) pqD
theorem xlat_ok {S : List Ss} {s : Ss} (hs : s ∈ S) (b3 now : Nat) : Spec Tryz.prog 45 [ptrS s.p, .pointer (some ⟨b3, 0, none⟩)] (⟨some b3, cl [.int .u64 (now : Int)] 25⟩ :: ssH S) (fun r H' => r = .bool (decide (s.st ≠ 1 ∨ now < s.til)) ∧ ⟨some b3, cl [.int .u64 (now : Int)] 25⟩ :: ssH S = H') := by
 have hms : seE s ∈ ssH S := List.mem_map_of_mem hs
 refine Spec.of (E := [(0, ptrS s.p), (1, .pointer (some ⟨b3, 0, none⟩))]) Tryz.func45 rfl (by kernel_rfl) Tryz.ntmps45 rfl rfl (fun w => ?_)
 refine WCr (WLa Z (WL_nil (WQ_code (WC_seq (WC_draw _ [(0, true), (1, true), (2, true), (3, true), (4, true), (5, true), (6, true), (7, true), (8, true), (9, true), (10, true), (11, true), (12, true), (13, true)] followsMixed Z Z (by kernel_rfl) .all ?_)))))
 refine WMa Z (WMa Z (WMf Z fa90_4 (WMv Z (R_load (v := .int .i64 s.st) Z sc49 Z (by first | exact hms | exact List.mem_cons_of_mem _ hms | exact List.mem_append_left _ hms | exact List.mem_append_right _ hms) Z) ?_)))
 refine WMa Z (WMa Z ?_)
 refine WM_splitD (s := 9) Z (fun c1 => ?_) (fun c1 => ?_)
 ·have hg := c1
  refine WMa Z (WMa Z (WMa Z (WMa Z (WMa Z (WMa Z (WMa Z (WMa Z (WM_nil (WQ_code (WC_ret ?_))))))))))
  refine WQ1 Z (by
    first | exact ⟨congrArg Value.bool (decide_eq_decide.2 (by omega)), rfl⟩ | exact ⟨congrArg Value.bool (decide_eq_true (by omega)).symm, rfl⟩) pqD
 ·have hg := c1
  refine WMa Z (WMa Z (WMf Z fa90_5 (WMv Z (R_load (v := .int .u64 (s.til : Int)) Z sc25 Z (by first | exact hms | exact List.mem_cons_of_mem _ hms | exact List.mem_append_left _ hms | exact List.mem_append_right _ hms) Z) ?_)))
  refine WMl Z sc25 mmD Z (WMa Z (WMa Z (WMa Z (WM_nil (WQ_code (WC_ret ?_))))))
  refine WQ1 Z (by
    first | exact ⟨congrArg Value.bool (decide_eq_decide.2 (by omega)), rfl⟩ | exact ⟨congrArg Value.bool (decide_eq_true (by omega)).symm, rfl⟩) pqD
theorem ivsP_map (pl : Int → Nat) (l : List Int) : ivsP pl l = l.map (fun v => ptrS (pl v)) := by
 unfold ivsP
 induction l with
 | nil => rfl
 | cons a r ih => rw [List.flatMap_cons, ih]; rfl
theorem xsort_ok {S : List Ss} (hn : (S.map (·.num)).Nodup) (l : List Int) (hl : l.length ≤ 1000000) (hm : ∀ k ∈ l, k ∈ S.map (·.num)) (o : Option Nat) (c : Nat) (tl : List Value) (own : Own o l.length c 1 (ivsP (plW (sesM S)) l) tl) :
  Spec Tryz.prog 46 [slV o l.length c, .func (.func 47) #[] #[]] (⟨o, cl (ivsP (plW (sesM S)) l ++ tl) 87⟩ :: ssH S)
  (fun r H' => ∃ l' : List Int, r = .tuple #[] ∧ l'.Perm l ∧ l'.Pairwise (fun a b => ¬ tilC S b a < 0) ∧ H' = ⟨o, cl (ivsP (plW (sesM S)) l' ++ tl) 87⟩ :: ssH S) := by
 by_cases h0 : l = []
 ·subst h0
  have hn := sort_none lysQ 46 rfl (Enters.mk Tryz.func46 rfl rfl) o c (.func (.func 47) #[] #[])
  exact (hn.fr (⟨o, cl (ivsP (plW (sesM S)) [] ++ tl) 87⟩ :: ssH S)).mono fun r H' ⟨H1, ⟨e1, e2⟩, e3⟩ => ⟨[], e1, .refl _, .nil, by rw [e3, e2]; rfl⟩
 ·obtain ⟨b, rfl⟩ := own.some_of (List.length_pos_iff.2 h0)
  obtain ⟨k0, hk0⟩ := List.exists_mem_of_ne_nil _ h0
  haveI : Inhabited {k : Int // k ∈ l} := ⟨⟨k0, hk0⟩⟩
  have hswo : Go.Sort.SWO (ltOf (fun x y : {k : Int // k ∈ l} => tilC S x.1 y.1)) := by
   refine ⟨fun x => ?_, fun x y z h1 h2 => ?_, fun x y z h1 h2 => ?_⟩
   ·simp only [ltOf, decide_eq_false_iff_not, tilC, lexI_lt]; omega
   ·simp only [ltOf, decide_eq_true_eq, tilC, lexI_lt] at *; omega
   ·simp only [ltOf, decide_eq_false_iff_not, tilC, lexI_lt] at *; omega
  have hs := sort_ok (enc := fun v : {k : Int // k ∈ l} => ptrS (plW (sesM S) v.1)) lysP 46 rfl (fun _ => rfl) (fun x y : {k : Int // k ∈ l} => tilC S x.1 y.1) hswo 47 [] (ssH S) (fun x y => by
   obtain ⟨sa, ha, ea⟩ := List.mem_map.1 (hm x.1 x.2)
   obtain ⟨sb, hb, eb⟩ := List.mem_map.1 (hm y.1 y.2)
   have := xcmp_ok ha hb
   show Spec Tryz.prog 47 [ptrS (plW (sesM S) x.1), ptrS (plW (sesM S) y.1)] (ssH S) (fun r H' => r = .int .i64 (lexI _ _ x.1 y.1) ∧ H' = ssH S)
   rw [← ea, ← eb, plW_at hn ha, plW_at hn hb, sesK_at hn ha, sesK_at hn hb]
   exact this) (Enters.mk Tryz.func46 rfl rfl) b l.length c 87 l.attach tl List.length_attach (by omega)
  have hat : l.attach.map (fun v => ptrS (plW (sesM S) v.1)) = ivsP (plW (sesM S)) l := by
   rw [ivsP_map]
   conv => rhs; rw [← List.attach_map_subtype_val l, List.map_map]
   rfl
  rw [hat] at hs
  refine hs.mono fun r H' ⟨d', e1, e2, e3, e4⟩ => ⟨d'.map Subtype.val, e1, ?_, ?_, ?_⟩
  ·have := e2.map Subtype.val
   rwa [List.attach_map_subtype_val] at this
  ·rw [List.pairwise_map]
   exact e3.imp fun {a b} h => by simpa only [ltOf, decide_eq_false_iff_not] using h
  ·rw [e4, ivsP_map, List.map_map]; rfl
theorem due_eq {x : PX} (hn : (x.S.map (·.num)).Nodup) {xs ys : List Int} (h1 : xs.Perm ((sesM x.S).map (·.1))) (h2 : ys.Perm (xs.filter (fun v => !lateS x.S x.now v))) (h3 : ys.Pairwise (fun a b => ¬ tilC x.S b a < 0)) : ys = x.due.map (·.num) := by
 have hp : ys.Perm (x.due.map (·.num)) := by
  refine h2.trans ((h1.filter _).trans (List.Perm.trans ?_ ((due_perm x).map _).symm))
  rw [sesM_keys, List.filter_map]
  refine List.Perm.of_eq (congrArg _ ?_)
  refine List.filter_congr fun s hs => ?_
  show (!lateS x.S x.now s.num) = _
  unfold lateS
  rw [sesK_at hn hs, ← decide_not]
  exact decide_eq_decide.2 (by omega)
 refine srt_uniq (lt := fun a b => tilC x.S a b < 0) hp h3 ?_
 rw [List.pairwise_map]
 refine (pair_mem (due_srt hn)).imp fun {a b} ⟨ha, hb, hab⟩ => ?_
 show tilC x.S a.num b.num < 0
 unfold tilC
 rw [lexI_lt, sesK_at hn (due_mem ha).1, sesK_at hn (due_mem hb).1]
 have h9 : a.til < b.til ∨ (a.til = b.til ∧ a.num < b.num) := hab
 omega
end
structure AvX where
 k : Nat
 m : XM
 x : PX
 N : Nat
def evA (now : Nat) (si : PS) : Nat := (si.advance now).E.length
def evS (now : Nat) (P : List PS) : Nat := (P.map (evA now)).sum
theorem dropX {α : Type} {l : List α} {j : Nat} {x : α} (h : l[j]? = some x) : l.drop j = x :: l.drop (j + 1) := by
 obtain ⟨h1, rfl⟩ := List.getElem?_eq_some_iff.1 h
 exact List.drop_eq_getElem_cons h1
theorem evS_drop {now : Nat} {P : List PS} {k : Nat} {si : PS} (h : P[k]? = some si) : evS now (P.drop k) = (si.advance now).E.length + evS now (P.drop (k + 1)) := by
 unfold evS; rw [dropX h, List.map_cons, List.sum_cons]; rfl
theorem nums_len {S : List Ss} (hn : (S.map (·.num)).Nodup) (h : ∀ s ∈ S, 0 ≤ s.num ∧ s.num ≤ 100) : S.length ≤ 101 := by
 have := pigeonP (S.map (·.num)) ((List.range 101).map (fun i : Nat => (i : Int))) hn fun k hk => by
  obtain ⟨s, hs, rfl⟩ := List.mem_map.1 hk
  have := h s hs
  exact List.mem_map.2 ⟨s.num.toNat, List.mem_range.2 (by omega), by omega⟩
 rw [List.length_map, List.length_map, List.length_range] at this
 exact this
theorem xlatK_ok {S : List Ss} (hn : (S.map (·.num)).Nodup) {v : Int} (hv : v ∈ S.map (·.num)) (b3 now : Nat) : Spec Tryz.prog 45 [ptrS (plW (sesM S) v), .pointer (some ⟨b3, 0, none⟩)] (⟨some b3, cl [.int .u64 (now : Int)] 25⟩ :: ssH S) (fun r H' => r = .bool (lateS S now v) ∧ ⟨some b3, cl [.int .u64 (now : Int)] 25⟩ :: ssH S = H') := by
 obtain ⟨s, hs, rfl⟩ := List.mem_map.1 hv
 unfold lateS
 rw [plW_at hn hs, sesK_at hn hs]
 exact xlat_ok hs b3 now
theorem xf_fail {N : Nat} {m : XM} {x : PX} (h : PXIs N m x) (hE : x.E.length ≤ 1000000) (hn : (x.S.map (·.num)).Nodup) {A B : List Ss} {s : Ss} (hS : x.S = A ++ s :: B) {now : Nat} (hdl : s.dl ≤ now) :
  Spec Tryz.prog 51 [ptrP m.p, ptrS s.p, .int .i64 12] (pxH m x) (fun r H' => ∃ m', r = .tuple #[] ∧ H' = pxH m' (x.dueF now s) ∧ PXIs (N + 1) m' (x.dueF now s) ∧ m'.p = m.p) := by
 have hX : x.dueF now s = { x.tell ⟨3, s.num, -1, -1, 12⟩ with S := A ++ B } := by unfold PX.dueF; rw [if_pos hdl, filt_num hS hn]
 rw [hX]
 refine (xfail_all h hE hS (ses_del hS hn) 12).mono ?_
 rintro r H' ⟨m', h1, h2, h3, h4, _⟩
 exact ⟨m', h1, h2, h3.le (Nat.le_succ N), h4⟩
theorem xf_att {N : Nat} {m : XM} {x : PX} (h : PXIs N m x) (hN : N ≤ 9000) (hE : x.E.length ≤ 1000000) (hg : PXG x) {b : Nat} (hB : PXB b x) (hb : b < 1000000000000) {A B : List Ss} {s : Ss} (hS : x.S = A ++ s :: B) {now : Nat} (hdl : ¬ s.dl ≤ now) :
  Spec Tryz.prog 33 [ptrP m.p, ptrS s.p] (pxH m x) (fun r H' => ∃ m', r = .tuple #[] ∧ H' = pxH m' (x.dueF now s) ∧ PXIs (N + 1) m' (x.dueF now s) ∧ m'.p = m.p) := by
 have hs : s ∈ x.S := by rw [hS]; exact List.mem_append_right _ (List.mem_cons_self ..)
 have hX : x.dueF now s = x.att A s B := by unfold PX.dueF; rw [if_neg hdl, attF_eq hS hg.nd]
 have hk := hg.ks s hs
 rw [hX]
 exact xattempt_ok h hN hE hS hk.1 (by omega) hg.bl (fun si hi => by have := hB si hi; rw [this.1]; exact ⟨Nat.zero_le _, by omega⟩) (ses_del hS hg.nd)
theorem foldl_next {α β : Type} {f : β → α → β} {l : List α} {k : Nat} {x : α} (h : l[k]? = some x) (b : β) : (l.take (k + 1)).foldl f b = f ((l.take k).foldl f b) x := by rw [take_next h, List.foldl_append]; rfl
theorem drain_E0 {x : PX} {i : Nat} {si : PS} (hi : x.P[i]? = some si) : ∀ (n : Nat) (x : PX) (si : PS), x.P[i]? = some si → si.E.length ≤ n → ∃ s', (PX.drainL i n x).P[i]? = some s' ∧ s' = { si with E := [] }
 | 0, x, si, h, hl => ⟨si, h, by have := List.length_eq_zero_iff.1 (Nat.le_zero.1 hl); show si = _; rw [← this]⟩
 | n + 1, x, si, h, hl => by
  unfold PX.drainL
  rw [h]
  dsimp only
  cases hE : si.E with
  | nil => exact ⟨si, h, by show si = _; rw [← hE]⟩
  | cons e r =>
   dsimp only
   have h2 : ((x.nxP i si).drE i e).P[i]? = some si.nx := by rw [(drE_P i _ e).1]; exact List.getElem?_set_self (List.getElem?_eq_some_iff.1 h).1
   have hEn : si.nx.E = r := by unfold PS.nx; rw [hE]; rfl
   obtain ⟨s', q1, q2⟩ := drain_E0 (x := (x.nxP i si).drE i e) h2 n _ si.nx h2 (by rw [hEn]; rw [hE, List.length_cons] at hl; omega)
   exact ⟨s', q1, q2⟩
theorem drain_dry {x : PX} {i : Nat} {si : PS} (hi : x.P[i]? = some si) : (x.drain i).P = x.P.set i { si with E := [] } := by
 apply List.ext_getElem?
 intro j
 by_cases e : i = j
 ·subst e
  rw [List.getElem?_set_self (List.getElem?_eq_some_iff.1 hi).1]
  obtain ⟨s', q1, q2⟩ := drain_E0 hi si.E.length x si hi (Nat.le_refl _)
  have : x.drain i = PX.drainL i si.E.length x := by unfold PX.drain; rw [hi]
  rw [this, q1, q2]
 ·rw [List.getElem?_set_ne e, drain_other (fun q => e q.symm)]
theorem advK_P (x : PX) (now : Nat) : ∀ k, (x.advK now k).P = (x.P.take k).map (fun si => { si.advance now with E := [] }) ++ x.P.drop k
 | 0 => by simp [PX.advK]
 | k + 1 => by
  have ih := advK_P x now k
  rw [advK_next]
  unfold PX.advP
  cases hi : (x.advK now k).P[k]? with
  | none =>
   have hl : x.P.length ≤ k := by rw [← (advK_facts x now k).2.2.1]; exact List.getElem?_eq_none_iff.1 hi
   dsimp only
   rw [ih, List.take_of_length_le hl, List.take_of_length_le (by omega), List.drop_of_length_le hl, List.drop_of_length_le (by omega)]
  | some si =>
   have hx : x.P[k]? = some si := by rw [← (advK_facts x now k).2.2.2 k (Nat.le_refl _)]; exact hi
   have hlt := (List.getElem?_eq_some_iff.1 hx).1
   dsimp only
   rw [drain_dry (x := { x.advK now k with P := (x.advK now k).P.set k (si.advance now) }) (si := si.advance now) (List.getElem?_set_self (List.getElem?_eq_some_iff.1 hi).1)]
   show ((x.advK now k).P.set k _).set k _ = _
   rw [List.set_set, ih, take_next hx, List.map_append, dropX hx, List.set_append_right _ _ (by simp; omega)]
   simp [Nat.min_eq_left (Nat.le_of_lt hlt)]
theorem adv_n (si : PS) (hp : PH si) (now : Nat) : (si.advance now).n ≤ si.n + 1 := by
 by_cases hm : si.may true now = 0
 ·exact (adv_R hp hm).n
 ·rw [adv_no hm]; exact Nat.le_succ _
theorem advK_B {x : PX} (h : PXG x) {b : Nat} (hB : PXB b x) (now k : Nat) : PXB (b + 1) (x.advK now k) := fun si hi => by
 rw [advK_P] at hi
 rcases List.mem_append.1 hi with hi | hi
 ·obtain ⟨s0, h0, rfl⟩ := List.mem_map.1 hi
  have h1 := List.mem_of_mem_take h0
  obtain ⟨j, hj⟩ := List.mem_iff_getElem?.1 h1
  have := hB s0 h1
  have := adv_n s0 (h.po j s0 hj).ph now
  exact ⟨rfl, by show (s0.advance now).n ≤ _; omega⟩
 ·have := hB si (List.mem_of_mem_drop hi)
  exact ⟨this.1, by omega⟩
theorem delf_none (l : List Int) (o : Option Nat) (c : Nat) (tl : List Value) (own : Own o l.length c 1 (ivs l) tl) (gf : Nat) (ca : List Value) (Hc : Heap) (p : Int → Bool) (hf : ∀ v ∈ l, Spec Tryz.prog gf (.int .i64 v :: ca) Hc (fun r H' => r = .bool (p v) ∧ Hc = H')) (hb : l.length ≤ 1000000) (hn : ∀ v ∈ l, p v = false) : Spec Tryz.prog 77 [slV o l.length c, .func (.func gf) #[] ca.toArray] (⟨o, cl (ivs l ++ tl) 3⟩ :: Hc) (fun r H' => ∃ (n2 : Nat) (tl2 : List Value), n2 = (l.filter (fun v => !p v)).length ∧ r = slV o n2 c ∧ Own o n2 c 1 (ivs (l.filter (fun v => !p v))) tl2 ∧ H' = ⟨o, cl (ivs (l.filter (fun v => !p v)) ++ tl2) 3⟩ :: Hc) := by
 have hidx := idxF_none hn
 have hfl : l.filter (fun v => !p v) = l := List.filter_eq_self.2 fun v hv => by rw [hn v hv]; rfl
 rw [hfl]
 refine Spec.of (E := [(0, slV o l.length c), (1, .func (.func gf) #[] ca.toArray)]) Tryz.func77 rfl (by kernel_rfl) Tryz.ntmps77 rfl rfl (fun w => ?_)
 refine WCr (WLa Z (WL_nil (WQ_code (WCr (WLa Z (WLa Z (WLq Z (idxf_ok l o c tl own gf ca Hc p hf hb) Z pqY ?_)))))))
 refine WLa Z (WL_nil (WQ_code (WC_seq (WCr (WLa Z (WLa Z (WL_nil (WQ_code (WC_dT Z (by exact hidx) ?_)))))))))
 refine WCr (WLa Z (WLa Z (WL_nil (WQ_code (WC_ret ?_)))))
 refine WQ1 Z (by
   exact ⟨_, tl, rfl, rfl, own, rfl⟩) pqY
theorem delf_some (l : List Int) (o : Option Nat) (c : Nat) (tl : List Value) (own : Own o l.length c 1 (ivs l) tl) (gf : Nat) (ca : List Value) (Hc : Heap) (p : Int → Bool) (hf : ∀ v ∈ l, Spec Tryz.prog gf (.int .i64 v :: ca) Hc (fun r H' => r = .bool (p v) ∧ Hc = H')) (hb : l.length ≤ 1000000) {k : Nat} {x0 : Int} (h0 : ∀ v ∈ l.take k, p v = false) (hx0 : l[k]? = some x0) (hp0 : p x0 = true) : Spec Tryz.prog 77 [slV o l.length c, .func (.func gf) #[] ca.toArray] (⟨o, cl (ivs l ++ tl) 3⟩ :: Hc) (fun r H' => ∃ (n2 : Nat) (tl2 : List Value), n2 = (l.filter (fun v => !p v)).length ∧ r = slV o n2 c ∧ Own o n2 c 1 (ivs (l.filter (fun v => !p v))) tl2 ∧ H' = ⟨o, cl (ivs (l.filter (fun v => !p v)) ++ tl2) 3⟩ :: Hc) := by
 have hidx := idxF_hit h0 hx0 hp0
 have hkl := (List.getElem?_eq_some_iff.1 hx0).1
 have hlc := own.le
 obtain ⟨wa, rfl⟩ := own.some_of (by omega)
 have hfk : l.take k = (l.take (k + 1)).filter (fun v => !p v) := by rw [flt_next hx0, if_pos hp0, List.append_nil]; exact (List.filter_eq_self.2 fun v hv => by rw [h0 v hv]; rfl).symm
 have hstart : l = l.take k ++ ([x0] ++ l.drop (k + 1)) := by rw [List.singleton_append, ← drop_at hx0, List.take_append_drop]
 refine Spec.of (E := [(0, slV (some wa) l.length c), (1, .func (.func gf) #[] ca.toArray)]) Tryz.func77 rfl (by kernel_rfl) Tryz.ntmps77 rfl rfl (fun w => ?_)
 refine WCr (WLa Z (WL_nil (WQ_code (WCr (WLa Z (WLa Z (WLq Z (idxf_ok l (some wa) c tl own gf ca Hc p hf hb) Z pqY ?_)))))))
 refine WLa Z (WL_nil (WQ_code (WC_seq (WCr (WLa Z (WLa Z (WL_nil (WQ_code (WC_dF Z (by rw [hidx]; omega) ?_)))))))))
 refine WC_skip (WQ_code (WC_seq (WCr (WLa Z (WLv Z (R_add Z Z Z (by omega)) ?_)))))
 refine WLa Z (WL_nil (WQ_code (WC_block (WC_set (s := 6) (v := .int .i64 ((k + 1 : Nat) : Int)) Z (by rw [hidx]; rfl) ?_))))
 refine WC_set (s := 5) (v := .int .i64 (((l.take k).length : Nat) : Int)) Z (by rw [hidx, List.length_take, Nat.min_eq_left (by omega)]) ?_
 rw [show cl (ivs l ++ tl) 3 = cl (ivs (l.take k ++ ([x0] ++ l.drop (k + 1))) ++ tl) 3 from by rw [← hstart]]
 refine WC_loopF (G := DelW) [5, 6, 7, 16, 17, 18, 19, 20, 21, 22, 23, 24, 25, 26, 27, 28, 29, 30, 31, 32, 33, 34, 35] (fun y => y.j ≤ l.length ∧ y.A = (l.take y.j).filter (fun v => !p v) ∧ y.A.length + y.J.length = y.j ∧ 1 ≤ y.J.length) (fun y => [(6, .int .i64 (y.j : Int)), (5, .int .i64 (y.A.length : Int))]) (fun y => [⟨some wa, cl (ivs (y.A ++ (y.J ++ l.drop y.j)) ++ tl) 3⟩]) (fun y => l.length - y.j) (⟨k + 1, l.take k, [x0]⟩) (⟨by dsimp only; omega, hfk, by dsimp only; rw [List.length_take, Nat.min_eq_left (by omega)]; rfl, Nat.le_refl _⟩) leZ pqY ?_
 rintro y ⟨hj, hA, hAJ, hJ⟩
 refine WC_seq (WCr (WLa Z (WLa Z (WLv Z (R_len Z Tryz.underlying23 Z) ?_))))
 refine WLa Z (WL_nil (WQ_code ?_))
 refine WC_dec Z (fun c1 => ?_) (fun c1 => ?_)
 ·refine WC_skip (WQ_code (WC_seq (WC_block (WCr ?_))))
  obtain ⟨x, hx⟩ := getE (T := l) (i := y.j) (by omega)
  have hdx := drop_at hx
  have hxm : (y.A ++ (y.J ++ l.drop y.j))[y.j]? = some x := by rw [hdx]; exact mid_get hAJ
  refine WLa Z (WLa Z (WLv Z (R_indexAddrN Z Tryz.underlying23 Tryz.sizeOf3 Z Z (by omega)) ?_))
  refine WLv Z (R_load (v := .int .i64 x) Z sc3 Z mmY (fm_get0 encI1 hxm (j := 0) (by omega))) ?_
  refine WLa Z (WL_nil (WQ_code (WCr (WLa Z (WLa Z (WLc Z (hf x (List.mem_of_getElem? hx)) Z pqY ?_))))))
  rintro _ _ ⟨_, ⟨rfl, rfl⟩, rfl⟩
  refine WLa Z (WL_nil (WQ_code ?_))
  refine WC_if Z (fun c2 => ?_) (fun c2 => ?_)
  ·have hc : p x = false := by simpa using c2
   obtain ⟨y9, J2, hJ2⟩ : ∃ a b, y.J = a :: b := by cases hq : y.J with | nil => rw [hq] at hJ; simp at hJ | cons a b => exact ⟨a, b, rfl⟩
   have hset : (y.A ++ (y.J ++ l.drop y.j)).set y.A.length x = (y.A ++ [x]) ++ ((J2 ++ [x]) ++ l.drop (y.j + 1)) := by rw [hJ2, mid_set, hdx]; simp
   refine WCr (WLa Z (WLa Z (WLa Z (WLv Z (R_indexAddrN Z Tryz.underlying23 Tryz.sizeOf3 Z Z (by omega)) ?_))))
   refine WLs (vs := [_]) Z Tryz.sizeOf3 Z Z plY (by exact fm_room0 encI1 (show y.A.length < (y.A ++ (y.J ++ l.drop y.j)).length by rw [List.length_append, List.length_append]; omega) (j := 0) (by omega)) ?_
   have hput := fm_put0 encI1 x (show (y.A ++ (y.J ++ l.drop y.j))[y.A.length]? = some y9 by rw [hJ2]; exact mid_at) (j := 0) (vs := [.int .i64 x]) (by simp) rfl (tl := tl)
   rw [Nat.add_zero] at hput
   rw [show ivs (y.A ++ (y.J ++ l.drop y.j)) = (y.A ++ (y.J ++ l.drop y.j)).flatMap encI from rfl, hput]
   refine WL_nil (WQ_code (WC_region (WLa Z (WLv Z (R_add Z Z Z (by omega)) ?_))))
   refine WL_set (s := 35) (v := .int .i64 (((y.A ++ [x]).length : Nat) : Int)) Z (by rw [List.length_append]; rfl) ?_
   refine WLa Z (WL_nil (WQ_code (WC_region (WLa Z (WLv Z (R_add Z Z Z (by omega)) ?_)))))
   refine WLa Z (WL_nil ?_)
   rw [hset]
   refine WQ_nextF (⟨y.j + 1, y.A ++ [x], J2 ++ [x]⟩) (⟨by dsimp only; omega, by dsimp only; rw [flt_next hx, if_neg (by rw [hc]; decide), ← hA], by dsimp only; rw [List.length_append, List.length_append]; simp only [List.length_cons, List.length_nil]; rw [hJ2] at hAJ; rw [List.length_cons] at hAJ; omega, by dsimp only; rw [List.length_append]; simp⟩) (by dsimp only; omega) leZ (psZ) Z pqY
  ·have hc : p x = true := by simpa using c2
   refine WC_skip (WQ_code (WC_region (WLa Z (WLv Z (R_add Z Z Z (by omega)) ?_))))
   refine WLa Z (WL_nil ?_)
   rw [show y.A ++ (y.J ++ l.drop y.j) = y.A ++ ((y.J ++ [x]) ++ l.drop (y.j + 1)) from by rw [hdx]; simp]
   refine WQ_nextF (⟨y.j + 1, y.A, y.J ++ [x]⟩) (⟨by dsimp only; omega, by dsimp only; rw [flt_next hx, if_pos hc, List.append_nil]; exact hA, by dsimp only; rw [List.length_append]; simp only [List.length_cons, List.length_nil]; omega, by dsimp only; rw [List.length_append]; omega⟩) (by dsimp only; omega) leZ (psZ) Z pqY
 ·have hjl : y.j = l.length := by omega
  have hdl : l.drop y.j = [] := by rw [hjl, List.drop_length]
  refine WC_exit (WQ_code (WCr (WLa Z (WLa Z (WLv Z (R_sliceFromK (m := y.A.length) Z Tryz.underlying23 Tryz.sizeOf3 Z Z (by omega)) ?_)))))
  rw [if_neg (by omega)]
  refine WL_do0 Z Z (D_clear Z si23 (fun v hv => by simp at hv; subst hv; rfl) Z plY (.inr (by rw [hdl, List.append_nil]; (show _ ≤ (ivs (y.A ++ y.J) ++ tl).length); rw [List.length_append, ivs_len, List.length_append]; omega))) ?_
  rintro _ _ ⟨ns, hns, rfl⟩
  rw [hdl, List.append_nil, show putAt (ivs (y.A ++ y.J) ++ tl) (0 + y.A.length * 1) ns = ivs y.A ++ (ns ++ tl) from by rw [show ivs (y.A ++ y.J) = ivs y.A ++ ivs y.J from List.flatMap_append, List.append_assoc, show 0 + y.A.length * 1 = (ivs y.A).length + 0 from by rw [ivs_len]; omega, putAt_append, putAt_eq _ _ _ (by rw [List.length_append, ivs_len]; omega)]; rw [List.take_zero, List.nil_append, Nat.zero_add, List.drop_append_of_le_length (by rw [ivs_len]; omega), List.drop_of_length_le (by rw [ivs_len]; omega), List.nil_append]]
  refine WL_nil (WQ_code (WCr (WLa Z (WLa Z (WLv Z (R_sliceTo (m := y.A.length) Z Tryz.underlying23 Tryz.sizeOf3 Z Z (by omega)) ?_)))))
  refine WLa Z (WL_nil (WQ_code (WC_ret ?_)))
  rw [hjl, List.take_length] at hA
  rw [← hA]
  refine WQ1 Z (by
    exact ⟨y.A.length, ns ++ tl, rfl, rfl, ⟨by rw [ivs_len]; omega, by have h8 := own.cap; rw [ivs_len] at h8 ⊢; rw [List.length_append]; omega, by omega, own.big, fun e => by cases e⟩, rfl⟩) pqY
theorem delf_ok (l : List Int) (o : Option Nat) (c : Nat) (tl : List Value) (own : Own o l.length c 1 (ivs l) tl) (gf : Nat) (ca : List Value) (Hc : Heap) (p : Int → Bool) (hf : ∀ v ∈ l, Spec Tryz.prog gf (.int .i64 v :: ca) Hc (fun r H' => r = .bool (p v) ∧ Hc = H')) (hb : l.length ≤ 1000000) : Spec Tryz.prog 77 [slV o l.length c, .func (.func gf) #[] ca.toArray] (⟨o, cl (ivs l ++ tl) 3⟩ :: Hc) (fun r H' => ∃ (n2 : Nat) (tl2 : List Value), n2 = (l.filter (fun v => !p v)).length ∧ r = slV o n2 c ∧ Own o n2 c 1 (ivs (l.filter (fun v => !p v))) tl2 ∧ H' = ⟨o, cl (ivs (l.filter (fun v => !p v)) ++ tl2) 3⟩ :: Hc) := by
 by_cases hn : ∀ v ∈ l, p v = false
 ·exact delf_none l o c tl own gf ca Hc p hf hb hn
 ·have key : ∀ (l : List Int), ¬ (∀ v ∈ l, p v = false) → ∃ k x0, (∀ v ∈ l.take k, p v = false) ∧ l[k]? = some x0 ∧ p x0 = true := by
   intro l
   induction l with
   | nil => intro h; exact absurd (fun v hv => by cases hv) h
   | cons a r ih =>
    intro h
    cases hp : p a with
    | true => exact ⟨0, a, fun v hv => by simp at hv, rfl, hp⟩
    | false =>
     obtain ⟨k, x0, h1, h2, h3⟩ := ih fun hr => h fun v hv => by
      rcases List.mem_cons.1 hv with rfl | hv
      ·exact hp
      ·exact hr v hv
     refine ⟨k + 1, x0, fun v hv => ?_, by simpa using h2, h3⟩
     rw [List.take_succ_cons] at hv
     rcases List.mem_cons.1 hv with rfl | hv
     ·exact hp
     ·exact h1 v hv
  obtain ⟨k, x0, h1, h2, h3⟩ := key l hn
  exact delf_some l o c tl own gf ca Hc p hf hb h1 h2 h3
structure Sto (lt : Int → Int → Prop) : Prop where
 irr : ∀ a, ¬ lt a a
 tr : ∀ a b c, lt a b → lt b c → lt a c
def CRel (cf : Int → Int → Int) (lt : Int → Int → Prop) (A B : List Int) : Prop := ∀ a ∈ A, ∀ b ∈ B, (cf b a < 0 ↔ lt b a) ∧ (lt a b ∨ lt b a)
theorem CRel.sub {cf : Int → Int → Int} {lt : Int → Int → Prop} {A B A' B' : List Int} (h : CRel cf lt A B) (h1 : ∀ a ∈ A', a ∈ A) (h2 : ∀ b ∈ B', b ∈ B) : CRel cf lt A' B' := fun a ha b hb => h a (h1 a ha) b (h2 b hb)
theorem pw_get {lt : Int → Int → Prop} {l : List Int} (h : l.Pairwise lt) {i j : Nat} {x y : Int} (hi : l[i]? = some x) (hj : l[j]? = some y) (hij : i < j) : lt x y := by
 obtain ⟨h1, rfl⟩ := List.getElem?_eq_some_iff.1 hi
 obtain ⟨h2, rfl⟩ := List.getElem?_eq_some_iff.1 hj
 exact List.pairwise_iff_getElem.1 h i j h1 h2 hij
theorem mem_take_get {l : List Int} {k : Nat} {z : Int} (h : z ∈ l.take k) : ∃ i, i < k ∧ l[i]? = some z := by
 obtain ⟨i, hi⟩ := List.mem_iff_getElem?.1 h
 have h1 := (List.getElem?_eq_some_iff.1 hi).1
 rw [List.length_take] at h1
 exact ⟨i, by omega, by rw [List.getElem?_take_of_lt (by omega)] at hi; exact hi⟩
theorem mem_drop_get {l : List Int} {k : Nat} {z : Int} (h : z ∈ l.drop k) : ∃ i, k ≤ i ∧ l[i]? = some z := by
 obtain ⟨i, hi⟩ := List.mem_iff_getElem?.1 h
 rw [List.getElem?_drop] at hi
 exact ⟨k + i, by omega, hi⟩
theorem s1_T {lt : Int → Int → Prop} (ho : Sto lt) {B : List Int} (hB : B.Pairwise lt) {x y : Int} {h : Nat} (hy : B[h]? = some y) (hlt : lt y x) : ∀ z ∈ B.take (h + 1), lt z x := fun z hz => by
 obtain ⟨i, hi, hzi⟩ := mem_take_get hz
 rcases Nat.lt_or_ge i h with h1 | h1
 ·exact ho.tr _ _ _ (pw_get hB hzi hy h1) hlt
 ·have : i = h := by omega
  subst this
  rw [hy] at hzi; cases hzi; exact hlt
theorem s1_F {lt : Int → Int → Prop} (ho : Sto lt) {B : List Int} (hB : B.Pairwise lt) {x y : Int} {h : Nat} (hy : B[h]? = some y) (hlt : ¬ lt y x) : ∀ z ∈ B.drop h, ¬ lt z x := fun z hz hzx => by
 obtain ⟨i, hi, hzi⟩ := mem_drop_get hz
 rcases Nat.lt_or_ge h i with h1 | h1
 ·exact hlt (ho.tr _ _ _ (pw_get hB hy hzi h1) hzx)
 ·have : i = h := by omega
  subst this
  rw [hy] at hzi; cases hzi; exact hlt hzx
theorem s2_F {lt : Int → Int → Prop} (ho : Sto lt) {A : List Int} (hA : A.Pairwise lt) {x y : Int} {h : Nat} (hy : A[h]? = some y) (hlt : lt x y) : ∀ z ∈ A.drop h, lt x z := fun z hz => by
 obtain ⟨i, hi, hzi⟩ := mem_drop_get hz
 rcases Nat.lt_or_ge h i with h1 | h1
 ·exact ho.tr _ _ _ hlt (pw_get hA hy hzi h1)
 ·have : i = h := by omega
  subst this
  rw [hy] at hzi; cases hzi; exact hlt
theorem ins_srtT {lt : Int → Int → Prop} (ho : Sto lt) {B : List Int} (hB : B.Pairwise lt) {x : Int} {i : Nat} (h1 : ∀ z ∈ B.take i, lt z x) (h2 : ∀ z ∈ B.drop i, lt x z) : (B.take i ++ x :: B.drop i).Pairwise lt := by
 refine List.pairwise_append.2 ⟨hB.take, List.pairwise_cons.2 ⟨h2, hB.drop⟩, fun a ha b hb => ?_⟩
 rcases List.mem_cons.1 hb with rfl | hb
 ·exact h1 a ha
 ·exact ho.tr _ _ _ (h1 a ha) (h2 b hb)
theorem ins_perm (B : List Int) (x : Int) (i : Nat) : (B.take i ++ x :: B.drop i).Perm (x :: B) := List.perm_middle.trans (.cons _ (List.Perm.of_eq (List.take_append_drop i B)))
def symLo (na nb : Nat) : Nat := if (na + nb) / 2 < na then (na + nb) / 2 - nb else 0
def symHi (na nb : Nat) : Nat := if (na + nb) / 2 < na then (na + nb) / 2 else na
structure SymI (lt : Int → Int → Prop) (A B : List Int) (s r : Nat) : Prop where
 lo : symLo A.length B.length ≤ s
 le : s ≤ r
 hi : r ≤ symHi A.length B.length
 l : s = symLo A.length B.length ∨ ∃ x y, 0 < s ∧ A[s - 1]? = some x ∧ B[(A.length + B.length) / 2 - s]? = some y ∧ lt x y
 r : r = symHi A.length B.length ∨ ∃ x y, A[r]? = some x ∧ B[(A.length + B.length) / 2 - 1 - r]? = some y ∧ lt y x
theorem symLo_lt {na nb c : Nat} (h1 : 1 ≤ na) (h2 : 1 ≤ nb) (hc1 : symLo na nb ≤ c) (hc2 : c < symHi na nb) : c < na ∧ (na + nb) / 2 - 1 - c < nb ∧ c + 1 ≤ (na + nb) / 2 := by
 unfold symLo at hc1; unfold symHi at hc2
 split at hc1 <;> split at hc2 <;> omega
theorem SymI.start {lt : Int → Int → Prop} {A B : List Int} (h1 : 1 ≤ A.length) (h2 : 1 ≤ B.length) : SymI lt A B (symLo A.length B.length) (symHi A.length B.length) := by
 refine ⟨Nat.le_refl _, ?_, Nat.le_refl _, .inl rfl, .inl rfl⟩
 unfold symLo symHi
 split <;> omega
theorem SymI.up {lt : Int → Int → Prop} {A B : List Int} {s r c : Nat} {x y : Int} (h : SymI lt A B s r) (hc1 : s ≤ c) (hc2 : c < r) (hx : A[c]? = some x) (hy : B[(A.length + B.length) / 2 - 1 - c]? = some y) (hlt : lt x y) : SymI lt A B (c + 1) r :=
 ⟨by have := h.lo; omega, by omega, h.hi, .inr ⟨x, y, by omega, hx, by rw [show (A.length + B.length) / 2 - (c + 1) = (A.length + B.length) / 2 - 1 - c from by omega]; exact hy, hlt⟩, h.r⟩
theorem SymI.dn {lt : Int → Int → Prop} {A B : List Int} {s r c : Nat} {x y : Int} (h : SymI lt A B s r) (hc1 : s ≤ c) (hc2 : c < r) (hx : A[c]? = some x) (hy : B[(A.length + B.length) / 2 - 1 - c]? = some y) (hlt : lt y x) : SymI lt A B s c :=
 ⟨h.lo, hc1, by have := h.hi; omega, h.l, .inr ⟨x, y, hx, hy, hlt⟩⟩
theorem SymI.bnd {lt : Int → Int → Prop} {A B : List Int} {s : Nat} (h : SymI lt A B s s) (h1 : 1 ≤ A.length) (h2 : 1 ≤ B.length) : s ≤ A.length ∧ s ≤ (A.length + B.length) / 2 ∧ (A.length + B.length) / 2 - s ≤ B.length := by
 have hl := h.lo; have hh := h.hi
 unfold symLo at hl; unfold symHi at hh
 split at hl <;> split at hh <;> omega
theorem SymI.cross {lt : Int → Int → Prop} (ho : Sto lt) {A B : List Int} {s : Nat} (h : SymI lt A B s s) (hA : A.Pairwise lt) (hB : B.Pairwise lt) (h1 : 1 ≤ A.length) (h2 : 1 ≤ B.length) :
  ∀ u ∈ A.take s ++ B.take ((A.length + B.length) / 2 - s), ∀ v ∈ A.drop s ++ B.drop ((A.length + B.length) / 2 - s), lt u v := by
 obtain ⟨b1, b2, b3⟩ := h.bnd h1 h2
 intro u hu v hv
 rcases List.mem_append.1 hu with hu | hu <;> rcases List.mem_append.1 hv with hv | hv
 ·obtain ⟨i, hi, hui⟩ := mem_take_get hu
  obtain ⟨j, hj, hvj⟩ := mem_drop_get hv
  exact pw_get hA hui hvj (by omega)
 ·obtain ⟨i, hi, hui⟩ := mem_take_get hu
  obtain ⟨j, hj, hvj⟩ := mem_drop_get hv
  have hjl := (List.getElem?_eq_some_iff.1 hvj).1
  rcases h.l with hl | ⟨x, y, h0, hx, hy, hxy⟩
  ·unfold symLo at hl
   split at hl <;> omega
  ·have hux : u = x ∨ lt u x := by
    rcases Nat.lt_or_ge i (s - 1) with h3 | h3
    ·exact .inr (pw_get hA hui hx h3)
    ·have : i = s - 1 := by omega
     subst this; rw [hui] at hx; cases hx; exact .inl rfl
   have hyv : y = v ∨ lt y v := by
    rcases Nat.lt_or_ge ((A.length + B.length) / 2 - s) j with h3 | h3
    ·exact .inr (pw_get hB hy hvj h3)
    ·have : j = (A.length + B.length) / 2 - s := by omega
     subst this; rw [hvj] at hy; cases hy; exact .inl rfl
   have h5 : lt u y := by
    rcases hux with rfl | h4
    ·exact hxy
    ·exact ho.tr _ _ _ h4 hxy
   rcases hyv with rfl | h4
   ·exact h5
   ·exact ho.tr _ _ _ h5 h4
 ·obtain ⟨i, hi, hui⟩ := mem_take_get hu
  obtain ⟨j, hj, hvj⟩ := mem_drop_get hv
  have hjl := (List.getElem?_eq_some_iff.1 hvj).1
  have hil := (List.getElem?_eq_some_iff.1 hui).1
  rcases h.r with hr | ⟨x, y, hx, hy, hyx⟩
  ·unfold symHi at hr
   split at hr <;> omega
  ·have huy : u = y ∨ lt u y := by
    rcases Nat.lt_or_ge i ((A.length + B.length) / 2 - 1 - s) with h3 | h3
    ·exact .inr (pw_get hB hui hy h3)
    ·have : i = (A.length + B.length) / 2 - 1 - s := by omega
     subst this; rw [hui] at hy; cases hy; exact .inl rfl
   have hxv : x = v ∨ lt x v := by
    rcases Nat.lt_or_ge s j with h3 | h3
    ·exact .inr (pw_get hA hx hvj h3)
    ·have : j = s := by omega
     subst this; rw [hvj] at hx; cases hx; exact .inl rfl
   have h5 : lt u x := by
    rcases huy with rfl | h4
    ·exact hyx
    ·exact ho.tr _ _ _ h4 hyx
   rcases hxv with rfl | h4
   ·exact h5
   ·exact ho.tr _ _ _ h5 h4
 ·obtain ⟨i, hi, hui⟩ := mem_take_get hu
  obtain ⟨j, hj, hvj⟩ := mem_drop_get hv
  exact pw_get hB hui hvj (by omega)
theorem sym_join {lt : Int → Int → Prop} {A B R1 R2 : List Int} {s e : Nat} (h1 : R1.Perm (A.take s ++ B.take e)) (h2 : R2.Perm (A.drop s ++ B.drop e)) (p1 : R1.Pairwise lt) (p2 : R2.Pairwise lt) (hc : ∀ u ∈ A.take s ++ B.take e, ∀ v ∈ A.drop s ++ B.drop e, lt u v) :
  (R1 ++ R2).Perm (A ++ B) ∧ (R1 ++ R2).Pairwise lt := by
 refine ⟨(h1.append h2).trans ?_, List.pairwise_append.2 ⟨p1, p2, fun a ha b hb => hc a (h1.mem_iff.1 ha) b (h2.mem_iff.1 hb)⟩⟩
 have e1 : (A.take s ++ B.take e ++ (A.drop s ++ B.drop e)).Perm (A.take s ++ (A.drop s ++ (B.take e ++ B.drop e))) := by
  rw [List.append_assoc]
  refine List.Perm.append_left _ ?_
  rw [← List.append_assoc, ← List.append_assoc]
  exact List.Perm.append_right _ List.perm_append_comm
 refine e1.trans (List.Perm.of_eq ?_)
 rw [List.take_append_drop, ← List.append_assoc, List.take_append_drop]
def Ord (cf : Int → Int → Int) (lt : Int → Int → Prop) (l : List Int) : Prop := l.Pairwise fun a b => (cf b a < 0 ↔ lt b a) ∧ (lt a b ∨ lt b a)
theorem insR_srtT {cf : Int → Int → Int} {lt : Int → Int → Prop} (ho : Sto lt) {A : List Int} {x : Int} (hA : A.Pairwise lt) (hx : ∀ a ∈ A, (cf x a < 0 ↔ lt x a) ∧ (lt a x ∨ lt x a)) : (insR cf A x).Pairwise lt := by
 have e : (A.reverse.dropWhile (fun y => decide (cf x y < 0))).reverse ++ (A.reverse.takeWhile (fun y => decide (cf x y < 0))).reverse = A := by rw [← List.reverse_append, List.takeWhile_append_dropWhile, List.reverse_reverse]
 unfold insR
 have hQ : ∀ y ∈ (A.reverse.takeWhile (fun y => decide (cf x y < 0))).reverse, cf x y < 0 := fun y hy => by
  have := List.mem_reverse.1 hy
  have h2 := List.all_takeWhile (p := fun y => decide (cf x y < 0)) (l := A.reverse)
  exact of_decide_eq_true (List.all_eq_true.1 h2 y this)
 have hP : ∀ y r, A.reverse.dropWhile (fun y => decide (cf x y < 0)) = y :: r → ¬ cf x y < 0 := fun y r h => by
  have := List.head?_dropWhile_not (fun y => decide (cf x y < 0)) A.reverse
  rw [h] at this
  simpa using this
 generalize (A.reverse.takeWhile (fun y => decide (cf x y < 0))).reverse = Q at *
 generalize hD : A.reverse.dropWhile (fun y => decide (cf x y < 0)) = D at *
 have hA2 := hA
 rw [← e] at hA2
 obtain ⟨p1, p2, p3⟩ := List.pairwise_append.1 hA2
 have hQ2 : ∀ y ∈ Q, lt x y := fun y hy => ((hx y (by rw [← e]; exact List.mem_append_right _ hy)).1).1 (hQ y hy)
 have hP2 : ∀ y ∈ D.reverse, lt y x := by
  cases D with
  | nil => intro y hy; cases hy
  | cons z r =>
   have hz := hP z r rfl
   have hzA : z ∈ A := by rw [← e]; exact List.mem_append_left _ (by simp)
   have hzx : lt z x := by
    rcases (hx z hzA).2 with h | h
    ·exact h
    ·exact absurd ((hx z hzA).1.2 h) hz
   intro y hy
   rw [List.reverse_cons] at hy p1
   rcases List.mem_append.1 hy with h | h
   ·exact ho.tr _ _ _ ((List.pairwise_append.1 p1).2.2 y h z (by simp)) hzx
   ·rw [List.mem_singleton.1 h]; exact hzx
 exact List.pairwise_append.2 ⟨p1, List.pairwise_cons.2 ⟨hQ2, p2⟩, fun a ha b hb => by
  rcases List.mem_cons.1 hb with rfl | hb
  ·exact hP2 a ha
  ·exact p3 a ha b hb⟩
theorem isL_srtT {cf : Int → Int → Int} {lt : Int → Int → Prop} (ho : Sto lt) {l : List Int} (hl : Ord cf lt l) : (isL cf l).Pairwise lt := by
 have key : ∀ (l A P : List Int), A.Perm P → A.Pairwise lt → Ord cf lt (P ++ l) → (l.foldl (insR cf) A).Pairwise lt := by
  intro l
  induction l with
  | nil => intro A P _ h _; exact h
  | cons x r ih =>
   intro A P hp hA ho2
   refine ih (insR cf A x) (P ++ [x]) ((insR_perm cf A x).trans ((hp.cons x).trans (List.perm_append_comm (l₁ := [x])))) (insR_srtT ho hA fun a ha => ?_) (by rw [List.append_assoc]; exact ho2)
   exact (List.pairwise_append.1 ho2).2.2 a (hp.mem_iff.1 ha) x (List.mem_cons_self ..)
 exact key l [] [] (.refl _) .nil hl
def blk (s t : Nat) (L : List Int) : List Int := (L.drop (t * s)).take s
theorem blk_get (s t : Nat) (L : List Int) (i : Nat) : (blk s t L)[i]? = if i < s then L[t * s + i]? else none := by
 unfold blk
 rw [List.getElem?_take, List.getElem?_drop]
theorem blk_same {s t a : Nat} {L Z : List Int} (h : t * s + s ≤ a) (ha : a ≤ L.length) : blk s t (L.take a ++ Z) = blk s t L := by
 refine List.ext_getElem? fun i => ?_
 rw [blk_get, blk_get]
 split
 ·rw [List.getElem?_append_left (by rw [List.length_take]; omega), List.getElem?_take_of_lt (by omega)]
 ·rfl
theorem blk_none {s t : Nat} {L : List Int} (h : L.length ≤ t * s) : blk s t L = [] := by
 unfold blk; rw [List.drop_eq_nil_of_le h, List.take_nil]
theorem blk_split (s t : Nat) (L : List Int) : L.drop (t * s) = blk s t L ++ L.drop (t * s + s) := by
 unfold blk
 rw [← List.drop_drop, List.take_append_drop]
theorem blk_two (s t : Nat) (L : List Int) : blk (2 * s) t L = blk s (2 * t) L ++ blk s (2 * t + 1) L := by
 unfold blk
 rw [show t * (2 * s) = 2 * t * s from by rw [Nat.mul_comm 2 s, ← Nat.mul_assoc, Nat.mul_comm (t * s) 2, Nat.mul_assoc], show (2 * t + 1) * s = 2 * t * s + s from by rw [Nat.add_mul, Nat.one_mul], ← List.drop_drop, Nat.two_mul, List.take_add]
theorem blk_len (s t : Nat) (L : List Int) : (blk s t L).length = min s (L.length - t * s) := by
 unfold blk; rw [List.length_take, List.length_drop]
structure SB (lt : Int → Int → Prop) (s : Nat) (D L : List Int) (k : Nat) : Prop where
 len : L.length = D.length
 b : ∀ t, t < k → (blk s t L).Perm (blk s t D) ∧ (blk s t L).Pairwise lt
theorem SB.zero (lt : Int → Int → Prop) (s : Nat) {D L : List Int} (h : L.length = D.length) : SB lt s D L 0 := ⟨h, fun t h => by omega⟩
theorem SB.step {lt : Int → Int → Prop} {s : Nat} {D L L0 C : List Int} {k : Nat} (h : SB lt s D L k) (hs : 1 ≤ s) (h0 : L0.length = D.length) (hk : k * s ≤ D.length) (hd : L.drop (k * s) = L0.drop (k * s)) (hp : C.Perm (blk s k D)) (hC : C.Pairwise lt) :
  SB lt s D (L.take (k * s) ++ (C ++ L0.drop (k * s + s))) (k + 1) ∧ (L.take (k * s) ++ (C ++ L0.drop (k * s + s))).drop ((k + 1) * s) = L0.drop ((k + 1) * s) := by
 have hcl := hp.length_eq
 rw [blk_len] at hcl
 have hl := h.len
 have htl : (L.take (k * s)).length = k * s := by rw [List.length_take]; omega
 have e1 : (L.take (k * s) ++ (C ++ L0.drop (k * s + s))).drop (k * s) = C ++ L0.drop (k * s + s) := by
  rw [List.drop_append, List.drop_eq_nil_of_le (by omega), htl, Nat.sub_self]; rfl
 have e2 : blk s k (L.take (k * s) ++ (C ++ L0.drop (k * s + s))) = C := by
  unfold blk
  rw [e1]
  rcases Nat.lt_or_ge (D.length) (k * s + s) with h9 | h9
  ·rw [List.drop_eq_nil_of_le (by omega), List.append_nil, List.take_of_length_le (by omega)]
  ·rw [List.take_append_of_le_length (by omega), List.take_of_length_le (by omega)]
 refine ⟨⟨?_, fun t ht => ?_⟩, ?_⟩
 ·rw [List.length_append, List.length_append, htl, List.length_drop]; omega
 ·rcases Nat.lt_or_ge t k with h1 | h1
  ·have : t * s + s ≤ k * s := by
    have := Nat.mul_le_mul_right s (show t + 1 ≤ k from h1)
    rw [Nat.add_mul, Nat.one_mul] at this; exact this
   rw [blk_same this (by omega)]
   exact h.b t h1
  ·have : t = k := by omega
   subst this
   rw [e2]
   exact ⟨hp, hC⟩
 ·rw [Nat.add_mul, Nat.one_mul, ← List.drop_drop, e1]
  rcases Nat.lt_or_ge (D.length) (k * s + s) with h9 | h9
  ·rw [show L0.drop (k * s + s) = [] from List.drop_eq_nil_of_le (by omega), List.append_nil, List.drop_eq_nil_of_le (by omega)]
  ·rw [List.drop_append, List.drop_eq_nil_of_le (by omega), show C.length = s from by omega, Nat.sub_self]; rfl
theorem SB.all {lt : Int → Int → Prop} {s : Nat} {D L : List Int} {k : Nat} (h : SB lt s D L k) (hk : D.length ≤ k * s) : ∀ t, SB lt s D L t := fun t => ⟨h.len, fun j hj => by
 rcases Nat.lt_or_ge j k with h1 | h1
 ·exact h.b j h1
 ·have h2 : D.length ≤ j * s := Nat.le_trans hk (Nat.mul_le_mul_right s h1)
  rw [blk_none h2, blk_none (by rw [h.len]; exact h2)]
  exact ⟨.refl _, .nil⟩⟩
theorem SB.done {lt : Int → Int → Prop} {s : Nat} {D L : List Int} (h : SB lt s D L 1) (hs : D.length ≤ s) : L.Perm D ∧ L.Pairwise lt := by
 have h1 := h.b 0 (by omega)
 unfold blk at h1
 rw [Nat.zero_mul, List.drop_zero, List.drop_zero, List.take_of_length_le (by rw [h.len]; exact hs), List.take_of_length_le hs] at h1
 exact h1
theorem Ord.blks {cf : Int → Int → Int} {lt : Int → Int → Prop} {D : List Int} (h : Ord cf lt D) (s t : Nat) {A B : List Int} (hA : A.Perm (blk s (2 * t) D)) (hB : B.Perm (blk s (2 * t + 1) D)) : CRel cf lt A B := fun a ha b hb => by
 have h1 : (blk (2 * s) t D).Sublist D := (List.take_sublist ..).trans (List.drop_sublist ..)
 have h2 := h.sublist h1
 rw [blk_two] at h2
 exact (List.pairwise_append.1 h2).2.2 a (hA.mem_iff.1 ha) b (hB.mem_iff.1 hb)
theorem Ord.blk {cf : Int → Int → Int} {lt : Int → Int → Prop} {D : List Int} (h : Ord cf lt D) (s t : Nat) : Ord cf lt (blk s t D) := h.sublist ((List.take_sublist ..).trans (List.drop_sublist ..))
def swR (L : List Int) (a b : Nat) : Nat → List Int
 | 0 => L
 | i + 1 => ((swR L a b i).set (a + i) ((swR L a b i)[b + i]?.getD 0)).set (b + i) ((swR L a b i)[a + i]?.getD 0)
theorem swR_len (L : List Int) (a b : Nat) : ∀ i, (swR L a b i).length = L.length
 | 0 => rfl
 | i + 1 => by unfold swR; rw [List.length_set, List.length_set, swR_len L a b i]
theorem swR_get (L : List Int) {a b n : Nat} (h : a + n ≤ b) (hb : b + n ≤ L.length) : ∀ i, i ≤ n → ∀ k, (swR L a b i)[k]? = if a ≤ k ∧ k < a + i then L[k - a + b]? else if b ≤ k ∧ k < b + i then L[k - b + a]? else L[k]?
 | 0, _, k => by rw [if_neg (by omega), if_neg (by omega)]; rfl
 | i + 1, hi, k => by
  have ih := swR_get L h hb i (by omega)
  have l1 : b + i < L.length := by omega
  have l2 : a + i < L.length := by omega
  unfold swR
  rw [List.getElem?_set, List.getElem?_set, List.length_set, swR_len, ih (b + i), ih (a + i), ih k]
  by_cases e1 : b + i = k
  ·subst e1
   rw [if_pos rfl, if_pos l1, if_neg (show ¬ (a ≤ b + i ∧ b + i < a + (i + 1)) by omega), if_pos (show b ≤ b + i ∧ b + i < b + (i + 1) by omega), if_neg (show ¬ (a ≤ a + i ∧ a + i < a + i) by omega), if_neg (show ¬ (b ≤ a + i ∧ a + i < b + i) by omega), show b + i - b + a = a + i from by omega, List.getElem?_eq_getElem l2]; rfl
  ·rw [if_neg e1]
   by_cases e2 : a + i = k
   ·subst e2
    rw [if_pos rfl, if_pos l2, if_pos (show a ≤ a + i ∧ a + i < a + (i + 1) by omega), if_neg (show ¬ (a ≤ b + i ∧ b + i < a + i) by omega), if_neg (show ¬ (b ≤ b + i ∧ b + i < b + i) by omega), show a + i - a + b = b + i from by omega, List.getElem?_eq_getElem l1]; rfl
   ·rw [if_neg e2]
    by_cases c1 : a ≤ k ∧ k < a + i
    ·rw [if_pos c1, if_pos (show a ≤ k ∧ k < a + (i + 1) by omega)]
    ·rw [if_neg c1, if_neg (show ¬ (a ≤ k ∧ k < a + (i + 1)) by omega)]
     by_cases c2 : b ≤ k ∧ k < b + i
     ·rw [if_pos c2, if_pos (show b ≤ k ∧ k < b + (i + 1) by omega)]
     ·rw [if_neg c2, if_neg (show ¬ (b ≤ k ∧ k < b + (i + 1)) by omega)]
theorem app5_get (U S V T W : List Int) (k : Nat) : (U ++ (S ++ (V ++ (T ++ W))))[k]? = if k < U.length then U[k]? else if k < U.length + S.length then S[k - U.length]? else if k < U.length + S.length + V.length then V[k - U.length - S.length]? else if k < U.length + S.length + V.length + T.length then T[k - U.length - S.length - V.length]? else W[k - U.length - S.length - V.length - T.length]? := by
 by_cases h1 : k < U.length
 ·rw [if_pos h1, List.getElem?_append_left h1]
 ·rw [if_neg h1, List.getElem?_append_right (by omega)]
  by_cases h2 : k < U.length + S.length
  ·rw [if_pos h2, List.getElem?_append_left (by omega)]
  ·rw [if_neg h2, List.getElem?_append_right (by omega)]
   by_cases h3 : k < U.length + S.length + V.length
   ·rw [if_pos h3, List.getElem?_append_left (by omega)]
   ·rw [if_neg h3, List.getElem?_append_right (by omega)]
    by_cases h4 : k < U.length + S.length + V.length + T.length
    ·rw [if_pos h4, List.getElem?_append_left (by omega)]
    ·rw [if_neg h4, List.getElem?_append_right (by omega)]
theorem swR_form (U S V T W : List Int) (h : S.length = T.length) : swR (U ++ (S ++ (V ++ (T ++ W)))) U.length (U.length + S.length + V.length) S.length = U ++ (T ++ (V ++ (S ++ W))) := by
 refine List.ext_getElem? fun k => ?_
 rw [swR_get (n := S.length) _ (by omega) (by simp; omega) S.length (Nat.le_refl _), app5_get, app5_get, app5_get, app5_get]
 (repeat' split) <;> first | rfl | omega | (congr 1; omega)
theorem adj_swap (P Q : List Int) (x y : Int) : ((P ++ x :: y :: Q).set P.length y).set (P.length + 1) x = P ++ y :: x :: Q := by
 rw [List.set_append_right _ _ (Nat.le_refl _), Nat.sub_self, List.set_cons_zero, List.set_append_right _ _ (by omega), show P.length + 1 - P.length = 1 from by omega]; rfl
theorem adj_swap2 (P Q : List Int) (x y : Int) : ((P ++ x :: y :: Q).set (P.length + 1) x).set P.length y = P ++ y :: x :: Q := by
 rw [List.set_append_right _ _ (by omega), show P.length + 1 - P.length = 1 from by omega, List.set_cons_succ, List.set_cons_zero, List.set_append_right _ _ (Nat.le_refl _), Nat.sub_self]; rfl
theorem at_in {X A R : List Int} {i j : Nat} {x : Int} (h : A[i]? = some x) (e : j = X.length + i) : (X ++ (A ++ R))[j]? = some x := by
 subst e
 have := (List.getElem?_eq_some_iff.1 h).1
 rw [List.getElem?_append_right (by omega), show X.length + i - X.length = i from by omega, List.getElem?_append_left this, h]
theorem at_in2 {X A B R : List Int} {i j : Nat} {x : Int} (h : B[i]? = some x) (e : j = X.length + A.length + i) : (X ++ (A ++ (B ++ R)))[j]? = some x := by
 rw [← List.append_assoc]
 exact at_in h (by rw [List.length_append]; omega)
theorem drop_at9 {l : List Int} {j : Nat} {x : Int} (h : l[j]? = some x) : l.drop j = x :: l.drop (j + 1) := by
 obtain ⟨h1, rfl⟩ := List.getElem?_eq_some_iff.1 h
 exact List.drop_eq_getElem_cons h1
theorem ins_up {X B Y : List Int} {x w : Int} {t a : Nat} (h : B[t]? = some w) (e : a = X.length + t) : ((X ++ (B.take t ++ x :: (B.drop t ++ Y))).set a w).set (a + 1) x = X ++ (B.take (t + 1) ++ x :: (B.drop (t + 1) ++ Y)) := by
 have ht := (List.getElem?_eq_some_iff.1 h).1
 have h1 : (X ++ B.take t).length = a := by rw [List.length_append, List.length_take]; omega
 have h2 := adj_swap (X ++ B.take t) (B.drop (t + 1) ++ Y) x w
 rw [h1] at h2
 rw [drop_at9 h, List.take_add_one, h]
 simpa using h2
theorem ins_dn {X A Y : List Int} {x w : Int} {t a : Nat} (h : A[t]? = some w) (e : a = X.length + t) : ((X ++ (A.take (t + 1) ++ x :: (A.drop (t + 1) ++ Y))).set (a + 1) w).set a x = X ++ (A.take t ++ x :: (A.drop t ++ Y)) := by
 have ht := (List.getElem?_eq_some_iff.1 h).1
 have h1 : (X ++ A.take t).length = a := by rw [List.length_append, List.length_take]; omega
 have h2 := adj_swap2 (X ++ A.take t) (A.drop (t + 1) ++ Y) w x
 rw [h1] at h2
 rw [drop_at9 h, List.take_add_one, h]
 simpa using h2
theorem ins_at1 {X B Y : List Int} {x : Int} {t a : Nat} (ht : t ≤ B.length) (e : a = X.length + t) : (X ++ (B.take t ++ x :: (B.drop t ++ Y)))[a]? = some x := by
 have : (B.take t).length = t := by rw [List.length_take]; omega
 subst e
 rw [List.getElem?_append_right (by omega), List.getElem?_append_right (by omega), show X.length + t - X.length - (B.take t).length = 0 from by omega]; rfl
theorem ins_at2 {X B Y : List Int} {x w : Int} {t a : Nat} (h : B[t]? = some w) (e : a = X.length + t + 1) : (X ++ (B.take t ++ x :: (B.drop t ++ Y)))[a]? = some w := by
 have h0 := (List.getElem?_eq_some_iff.1 h).1
 have : (B.take t).length = t := by rw [List.length_take]; omega
 subst e
 rw [List.getElem?_append_right (by omega), List.getElem?_append_right (by omega), show X.length + t + 1 - X.length - (B.take t).length = 1 from by omega, drop_at9 h]; rfl
theorem ins_at0 {X B Y : List Int} {x w : Int} {t a : Nat} (h : B[t]? = some w) (e : a = X.length + t) : (X ++ (B.take (t + 1) ++ x :: (B.drop (t + 1) ++ Y)))[a]? = some w := by
 have h0 := (List.getElem?_eq_some_iff.1 h).1
 have : (B.take (t + 1)).length = t + 1 := by rw [List.length_take]; omega
 subst e
 rw [List.getElem?_append_right (by omega), List.getElem?_append_left (by omega), List.getElem?_take_of_lt (by omega), show X.length + t - X.length = t from by omega]; exact h
theorem ins_len {X B Y : List Int} {x : Int} (t : Nat) : (X ++ (B.take t ++ x :: (B.drop t ++ Y))).length = X.length + B.length + 1 + Y.length := by
 simp only [List.length_append, List.length_cons, List.length_take, List.length_drop]; omega
theorem isrt_at {X A B Y : List Int} {x : Int} {a : Nat} (e : a = X.length + A.length) : (X ++ (A ++ x :: (B ++ Y)))[a]? = some x := by
 subst e
 rw [List.getElem?_append_right (by omega), List.getElem?_append_right (by omega), show X.length + A.length - X.length - A.length = 0 from by omega]; rfl
theorem isrt_swap {X P B Y : List Int} {x y : Int} {a : Nat} (e : a = X.length + P.length) : ((X ++ ((P ++ [y]) ++ x :: (B ++ Y))).set (a + 1) y).set a x = X ++ (P ++ x :: ((y :: B) ++ Y)) := by
 have := adj_swap2 (X ++ P) (B ++ Y) y x
 rw [show (X ++ P).length = a from by rw [List.length_append]; omega] at this
 simpa using this
structure RoW where
 X : List Int
 A : List Int
 B : List Int
 Y : List Int
 i : Nat
 j : Nat
structure SeW where
 i : Nat
 j : Nat
theorem half_eq {a b m n1 n2 : Nat} (hm : m = a + n1) (hb : b = m + n2) : (a + b) / 2 = a + (n1 + n2) / 2 := by omega
theorem shr1 (n : Nat) : (((n : Nat) : Int)).fdiv (2 ^ min (Int.toNat 1) 64) = ((n / 2 : Nat) : Int) := by
 rw [show (2 ^ min (Int.toNat 1) 64 : Int) = 2 from rfl, Int.fdiv_eq_ediv_of_nonneg _ (by omega)]; omega
theorem swr_ok (L : List Int) (n : Nat) (hn : L.length = n) (hn2 : n ≤ 1000000) (wa c : Nat) (tl : List Value) (fv : Value) (a b m : Nat) (h1 : a + m ≤ b) (h2 : b + m ≤ n) :
  Spec Tryz.prog 185 [slV (some wa) n c, .int .i64 (a : Int), .int .i64 (b : Int), .int .i64 (m : Int), fv] [⟨some wa, cl (ivs L ++ tl) 3⟩] (fun r H' => r = .tuple #[] ∧ H' = [⟨some wa, cl (ivs (swR L a b m) ++ tl) 3⟩]) := by
 refine Spec.of (E := [(0, slV (some wa) n c), (1, .int .i64 (a : Int)), (2, .int .i64 (b : Int)), (3, .int .i64 (m : Int)), (4, fv)]) Tryz.func185 rfl (by kernel_rfl) Tryz.ntmps185 rfl rfl (fun w => ?_)
 refine WCr (WLa Z (WL_nil (WQ_code (WC_block (WC_loopF (G := Nat) [10, 11, 12, 13, 14, 15, 16, 17, 18, 19, 20, 21, 22, 23, 24, 25, 26, 27, 28, 29, 30, 31, 32, 33, 34, 35, 36, 37] (fun y => y ≤ m) (fun y => [(10, .int .i64 (y : Int))]) (fun y => [⟨some wa, cl (ivs (swR L a b y) ++ tl) 3⟩]) (fun y => m - y) (0) (Nat.zero_le _) leZ pqY ?_)))))
 rintro y hym0
 refine WC_seq (WCr (WLa Z (WLa Z (WLa Z (WL_nil (WQ_code ?_))))))
 refine WC_dec Z (fun c1 => ?_) (fun c1 => ?_)
 ·refine WC_skip (WQ_code (WC_seq (WC_block (WC_drawE [⟨some wa, _⟩] [(0, false), (1, false), (2, false), (3, false), (4, false), (5, false), (6, false), (7, false), (8, false), (9, false), (10, false), (11, false), (12, false), (13, true), (14, false), (15, false), (16, false), (17, false), (18, false), (19, true)] [(20, true), (21, false), (22, true), (23, false)] followsMixed Z Z (by kernel_rfl) pqY ?_))))
  have hsl := swR_len L a b y
  obtain ⟨x, hx⟩ := getE (T := swR L a b y) (i := a + y) (by omega)
  obtain ⟨z, hz⟩ := getE (T := swR L a b y) (i := b + y) (by omega)
  have hsw1 : putAt (ivs (swR L a b y) ++ tl) (0 + (a + y) * 1) [.int .i64 z] = ivs ((swR L a b y).set (a + y) z) ++ tl := by have := fm_put0 encI1 z hx (j := 0) (vs := [.int .i64 z]) (by simp) rfl (tl := tl); rw [Nat.add_zero] at this; exact this
  have hz2 : ((swR L a b y).set (a + y) z)[b + y]? = some z := by rw [List.getElem?_set_ne (by omega), hz]
  have hsw2 : putAt (ivs ((swR L a b y).set (a + y) z) ++ tl) (0 + (b + y) * 1) [.int .i64 x] = ivs (swR L a b (y + 1)) ++ tl := by have := fm_put0 encI1 x hz2 (j := 0) (vs := [.int .i64 x]) (by simp) rfl (tl := tl); rw [Nat.add_zero] at this; rw [show ivs (swR L a b (y + 1)) = (((swR L a b y).set (a + y) z).set (b + y) x).flatMap encI from congrArg ivs (show swR L a b (y + 1) = ((swR L a b y).set (a + y) z).set (b + y) x from by show ((swR L a b y).set (a + y) ((swR L a b y)[b + y]?.getD 0)).set (b + y) ((swR L a b y)[a + y]?.getD 0) = _; rw [hx, hz]; rfl)]; exact this
  refine WZ_val Z Z Z Z (R_move Z Z) ?_
  refine WZ_val Z Z Z Z (R_move Z Z) ?_
  refine WZ_val Z Z Z Z (R_move Z Z) ?_
  refine WZ_val Z Z Z Z (R_addR (r := ((a + y : Nat) : Int)) Z Z Z (by rw [wrap64_in (by omega) (by omega)]; omega)) ?_
  refine WZ_val Z Z Z Z (R_move Z Z) ?_
  refine WZ_val Z Z Z Z (R_move Z Z) ?_
  refine WZ_val Z Z Z Z (R_move Z Z) ?_
  refine WZ_val Z Z Z Z (R_addR (r := ((b + y : Nat) : Int)) Z Z Z (by rw [wrap64_in (by omega) (by omega)]; omega)) ?_
  refine WZ_val Z Z Z Z (R_move Z Z) ?_
  refine WZ_val Z Z Z Z (R_move Z Z) ?_
  refine WZ_val Z Z Z Z (R_move Z Z) ?_
  refine WZ_val Z Z Z Z (R_addR (r := ((b + y : Nat) : Int)) Z Z Z (by rw [wrap64_in (by omega) (by omega)]; omega)) ?_
  refine WZ_val Z Z Z Z (R_indexAddrN Z Tryz.underlying23 Tryz.sizeOf3 Z Z (by omega)) ?_
  refine WZ_early Z Z Z Z (R_load (v := .int .i64 z) Z sc3 Z mmY (fm_get0 encI1 hz (j := 0) (by omega))) ?_
  refine WZ_val Z Z Z Z (R_move Z Z) ?_
  refine WZ_val Z Z Z Z (R_move Z Z) ?_
  refine WZ_val Z Z Z Z (R_move Z Z) ?_
  refine WZ_val Z Z Z Z (R_addR (r := ((a + y : Nat) : Int)) Z Z Z (by rw [wrap64_in (by omega) (by omega)]; omega)) ?_
  refine WZ_val Z Z Z Z (R_indexAddrN Z Tryz.underlying23 Tryz.sizeOf3 Z Z (by omega)) ?_
  refine WZ_early Z Z Z Z (R_load (v := .int .i64 x) Z sc3 Z mmY (fm_get0 encI1 hx (j := 0) (by omega))) ?_
  refine WZ_rest ?_
  refine WMv Z (R_indexAddrN Z Tryz.underlying23 Tryz.sizeOf3 Z Z (by omega)) ?_
  refine WM_do0 Z Z Z (D_store (vs := [_]) Z Tryz.sizeOf3 Z Z Z Z Z plY (by exact fm_room0 encI1 (show a + y < (swR L a b y).length by omega) (j := 0) (by omega))) ?_
  rintro _ _ rfl
  refine ⟨⟨_, pqY⟩, ?_⟩
  rw [hsw1]
  refine WMv Z (R_indexAddrN Z Tryz.underlying23 Tryz.sizeOf3 Z Z (by omega)) ?_
  refine WM_do0 Z Z Z (D_store (vs := [_]) Z Tryz.sizeOf3 Z Z Z Z Z plY (by exact fm_room0 encI1 (show b + y < ((swR L a b y).set (a + y) z).length by rw [List.length_set]; omega) (j := 0) (by omega))) ?_
  rintro _ _ rfl
  refine ⟨⟨_, pqY⟩, ?_⟩
  rw [hsw2]
  refine WM_nil (WQ_code (WC_region (WLa Z (WLv Z (R_add Z Z Z (by omega)) ?_))))
  refine WLa Z (WL_nil ?_)
  refine WQ_nextF (y + 1) (by omega) (by omega) leZ (psZ) Z pqY
 ·have hym : y = m := by omega
  refine WC_exit ?_
  rw [hym]
  refine WQ2 Z (by
    exact ⟨rfl, rfl⟩) pqY
theorem swr_fm {L L' : List Int} {U S V T W : List Int} (hL : L = U ++ (S ++ (V ++ (T ++ W)))) (hL' : L' = U ++ (T ++ (V ++ (S ++ W)))) (hst : S.length = T.length) (n : Nat) (hn : L.length = n) (hn2 : n ≤ 1000000) (wa c : Nat) (tl : List Value) (fv : Value) (a b m : Nat) (ha : a = U.length) (hb : b = U.length + S.length + V.length) (hm : m = S.length) :
  Spec Tryz.prog 185 [slV (some wa) n c, .int .i64 (a : Int), .int .i64 (b : Int), .int .i64 (m : Int), fv] [⟨some wa, cl (ivs L ++ tl) 3⟩] (fun r H' => r = .tuple #[] ∧ H' = [⟨some wa, cl (ivs L' ++ tl) 3⟩]) := by
 subst ha; subst hb; subst hm
 have hl : L.length = U.length + (S.length + (V.length + (T.length + W.length))) := by rw [hL]; simp
 have h := swr_ok L n hn hn2 wa c tl fv U.length (U.length + S.length + V.length) S.length (by omega) (by omega)
 have e : swR L U.length (U.length + S.length + V.length) S.length = L' := by rw [hL, hL', swR_form U S V T W hst]
 rw [e] at h
 exact h
theorem rot_ok (X A B Y : List Int) (n : Nat) (hn : X.length + A.length + B.length + Y.length = n) (hn2 : n ≤ 1000000) (hA : 1 ≤ A.length) (hB : 1 ≤ B.length) (wa c : Nat) (tl : List Value) (fv : Value) (a m b : Nat) (ha : a = X.length) (hm : m = a + A.length) (hb : b = m + B.length) :
  Spec Tryz.prog 182 [slV (some wa) n c, .int .i64 (a : Int), .int .i64 (m : Int), .int .i64 (b : Int), fv] [⟨some wa, cl (ivs (X ++ (A ++ (B ++ Y))) ++ tl) 3⟩] (fun r H' => r = .tuple #[] ∧ H' = [⟨some wa, cl (ivs (X ++ (B ++ (A ++ Y))) ++ tl) 3⟩]) := by
 refine Spec.of (E := [(0, slV (some wa) n c), (1, .int .i64 (a : Int)), (2, .int .i64 (m : Int)), (3, .int .i64 (b : Int)), (4, fv)]) Tryz.func182 rfl (by kernel_rfl) Tryz.ntmps182 rfl rfl (fun w => ?_)
 refine WCr (WLa Z (WLa Z (WLv Z (R_subR (r := ((A.length : Nat) : Int)) Z Z Z (by rw [wrap64_in (by omega) (by omega)]; omega)) ?_)))
 refine WLa Z (WL_nil (WQ_code (WCr (WLa Z (WLa Z (WLv Z (R_subR (r := ((B.length : Nat) : Int)) Z Z Z (by rw [wrap64_in (by omega) (by omega)]; omega)) ?_))))))
 refine WLa Z (WL_nil (WQ_code (WC_seq (WC_block (WC_loopF (G := RoW) [10, 11, 18, 19, 20, 21, 22, 23, 24, 25, 26, 27, 28, 29, 30, 31, 32, 33, 34, 35, 36, 37, 38, 39, 40, 41, 42, 43, 44, 45, 46, 47, 48, 49] (fun y => y.X ++ (y.B ++ (y.A ++ y.Y)) = X ++ (B ++ (A ++ Y)) ∧ y.X.length + y.A.length = m ∧ y.i = y.A.length ∧ y.j = y.B.length ∧ 1 ≤ y.i ∧ 1 ≤ y.j ∧ y.X.length + y.A.length + y.B.length + y.Y.length = n) (fun y => [(10, .int .i64 (y.i : Int)), (11, .int .i64 (y.j : Int))]) (fun y => [⟨some wa, cl (ivs (y.X ++ (y.A ++ (y.B ++ y.Y))) ++ tl) 3⟩]) (fun y => y.i + y.j) (⟨X, A, B, Y, A.length, B.length⟩) (⟨Z, by dsimp only; omega, rfl, rfl, hA, hB, hn⟩) leZ pqY ?_)))))
 rintro y ⟨hT, hXm, hi, hj, hi1, hj1, hN⟩
 refine WC_seq (WCr (WLa Z (WLa Z (WLa Z (WL_nil (WQ_code ?_))))))
 refine WC_dec Z (fun c1 => ?_) (fun c1 => ?_)
 ·refine WC_skip (WQ_code (WC_block (WCr (WLa Z (WLa Z (WLa Z (WL_nil (WQ_code ?_))))))))
  refine WC_dec Z (fun c2 => ?_) (fun c2 => ?_)
  ·refine WCr (WLa Z (WLa Z (WLa Z (WLv Z (R_subR (r := ((y.X.length : Nat) : Int)) Z Z Z (by rw [wrap64_in (by omega) (by omega)]; omega)) ?_))))
   refine WLa Z (WLa Z (WLa Z (WLc Z (swr_fm (L := y.X ++ (y.A ++ (y.B ++ y.Y))) (L' := (y.X ++ y.B) ++ (y.A.drop y.j ++ (y.A.take y.j ++ y.Y))) (U := y.X) (S := y.A.take y.j) (V := y.A.drop y.j) (T := y.B) (W := y.Y) (by rw [← List.append_assoc (y.A.take y.j), List.take_append_drop]) (by rw [List.append_assoc]) (by rw [List.length_take]; omega) n (by simp only [List.length_append]; omega) hn2 wa c tl fv y.X.length m y.j Z (by rw [List.length_take, List.length_drop]; omega) (by rw [List.length_take]; omega)) Z pqY ?_)))
   rintro _ _ ⟨_, ⟨rfl, rfl⟩, rfl⟩
   refine WL_nil (WQ_code (WC_region (WLa Z (WLa Z (WLv Z (R_subR (r := ((y.i - y.j : Nat) : Int)) Z Z Z (by rw [wrap64_in (by omega) (by omega)]; omega)) ?_)))))
   refine WLa Z (WL_nil ?_)
   refine WQ_nextF (⟨y.X ++ y.B, y.A.drop y.j, y.A.take y.j, y.Y, y.i - y.j, y.j⟩) (⟨by dsimp only; rw [← hT, List.append_assoc, ← List.append_assoc (y.A.take y.j), List.take_append_drop], by simp only [List.length_append, List.length_drop]; omega, by dsimp only; rw [List.length_drop]; omega, by dsimp only; rw [List.length_take]; omega, by dsimp only; omega, by dsimp only; omega, by simp only [List.length_append, List.length_drop, List.length_take]; omega⟩) (by dsimp only; omega) leZ (psZ) Z pqY
  ·refine WCr (WLa Z (WLa Z (WLa Z (WLv Z (R_subR (r := ((y.X.length : Nat) : Int)) Z Z Z (by rw [wrap64_in (by omega) (by omega)]; omega)) ?_))))
   refine WLa Z (WLa Z (WLv Z (R_addR (r := ((m + y.j : Nat) : Int)) Z Z Z (by rw [wrap64_in (by omega) (by omega)]; omega)) ?_))
   refine WLa Z (WLv Z (R_subR (r := ((m + y.j - y.i : Nat) : Int)) Z Z Z (by rw [wrap64_in (by omega) (by omega)]; omega)) ?_)
   refine WLa Z (WLa Z (WLc Z (swr_fm (L := y.X ++ (y.A ++ (y.B ++ y.Y))) (L' := y.X ++ (y.B.drop (y.j - y.i) ++ (y.B.take (y.j - y.i) ++ (y.A ++ y.Y)))) (U := y.X) (S := y.A) (V := y.B.take (y.j - y.i)) (T := y.B.drop (y.j - y.i)) (W := y.Y) (by rw [← List.append_assoc (y.B.take (y.j - y.i)), List.take_append_drop]) Z (by rw [List.length_drop]; omega) n (by simp only [List.length_append]; omega) hn2 wa c tl fv y.X.length (m + y.j - y.i) y.i Z (by rw [List.length_take]; omega) (by omega)) Z pqY ?_))
   rintro _ _ ⟨_, ⟨rfl, rfl⟩, rfl⟩
   refine WL_nil (WQ_code (WC_region (WLa Z (WLa Z (WLv Z (R_subR (r := ((y.j - y.i : Nat) : Int)) Z Z Z (by rw [wrap64_in (by omega) (by omega)]; omega)) ?_)))))
   refine WLa Z (WL_nil ?_)
   refine WQ_nextF (⟨y.X, y.B.drop (y.j - y.i), y.B.take (y.j - y.i), y.A ++ y.Y, y.i, y.j - y.i⟩) (⟨by dsimp only; rw [← hT, ← List.append_assoc (y.B.take (y.j - y.i)), List.take_append_drop], by dsimp only; rw [List.length_drop]; omega, by dsimp only; rw [List.length_drop]; omega, by dsimp only; rw [List.length_take]; omega, by dsimp only; omega, by dsimp only; omega, by simp only [List.length_append, List.length_drop, List.length_take]; omega⟩) (by dsimp only; omega) leZ (psZ) Z pqY
 ·refine WC_exit (WQ_code (WC_region (WLa Z (WLa Z (WLa Z (WLv Z (R_subR (r := ((y.X.length : Nat) : Int)) Z Z Z (by rw [wrap64_in (by omega) (by omega)]; omega)) ?_))))))
  refine WLa Z (WLa Z (WLa Z (WLc Z (swr_fm (L := y.X ++ (y.A ++ (y.B ++ y.Y))) (L' := X ++ (B ++ (A ++ Y))) (U := y.X) (S := y.A) (V := []) (T := y.B) (W := y.Y) Z (by rw [← hT]; rfl) (by omega) n (by simp only [List.length_append]; omega) hn2 wa c tl fv y.X.length m y.i Z (by rw [List.length_nil]; omega) (by omega)) Z pqY ?_)))
  rintro _ _ ⟨_, ⟨rfl, rfl⟩, rfl⟩
  refine WL_nil ?_
  refine WQ2 Z (by
    exact ⟨rfl, rfl⟩) pqY
theorem isrtX_nil (L : List Int) (n : Nat) (wa c : Nat) (tl : List Value) (fv : Value) (a b : Nat) (hb : b ≤ a + 1) (ha : a ≤ 1000000) : Spec Tryz.prog 164 [slV (some wa) n c, .int .i64 (a : Int), .int .i64 (b : Int), fv] [] (fun r H' => r = .tuple #[] ∧ H' = []) := by
 refine Spec.of (E := [(0, slV (some wa) n c), (1, .int .i64 (a : Int)), (2, .int .i64 (b : Int)), (3, fv)]) Tryz.func164 rfl (by kernel_rfl) Tryz.ntmps164 rfl rfl (fun w => ?_)
 refine WCr (WLa Z (WLv Z (R_addR (r := ((a + 1 : Nat) : Int)) Z Z Z (by rw [wrap64_in (by omega) (by omega)]; omega)) ?_))
 refine WLa Z (WL_nil (WQ_code (WC_block (WC_loopF (G := Unit) [8, 9, 12, 13, 14, 15, 16, 17, 18, 19, 20, 21, 22, 23, 24, 25, 26, 27, 28, 29, 30, 31, 32, 33, 34, 35, 36, 37, 38, 39, 40, 41, 42, 43, 44, 45, 46, 47, 48, 49, 50, 51, 52] (fun u => True) (fun u => [(8, .int .i64 ((a + 1 : Nat) : Int))]) (fun u => []) (fun u => 0) (()) (trivial) leZ pqY ?_))))
 rintro u _
 refine WC_seq (WCr (WLa Z (WLa Z (WLa Z (WL_nil (WQ_code (WC_dF Z (by omega) ?_)))))))
 refine WC_exit ?_
 refine WQ2 Z (by
   exact ⟨rfl, rfl⟩) pqY
theorem isrtX_do (X l Y : List Int) (n : Nat) (hn : X.length + l.length + Y.length = n) (hn2 : n ≤ 1000000) (wa c : Nat) (tl : List Value) (gf : Nat) (ca : List Value) (Hc : Heap) (cf : Int → Int → Int) (hf : ∀ a ∈ l, ∀ b ∈ l, Spec Tryz.prog gf (.int .i64 a :: .int .i64 b :: ca) Hc (fun r H' => r = .int .i64 (cf a b) ∧ Hc = H')) (hl : 1 ≤ l.length) (a b : Nat) (ha : a = X.length) (hb : b = a + l.length) :
  Spec Tryz.prog 164 [slV (some wa) n c, .int .i64 (a : Int), .int .i64 (b : Int), .func (.func gf) #[] ca.toArray] (⟨some wa, cl (ivs (X ++ (l ++ Y)) ++ tl) 3⟩ :: Hc) (fun r H' => r = .tuple #[] ∧ H' = ⟨some wa, cl (ivs (X ++ (isL cf l ++ Y)) ++ tl) 3⟩ :: Hc) := by
 refine Spec.of (E := [(0, slV (some wa) n c), (1, .int .i64 (a : Int)), (2, .int .i64 (b : Int)), (3, .func (.func gf) #[] ca.toArray)]) Tryz.func164 rfl (by kernel_rfl) Tryz.ntmps164 rfl rfl (fun w => ?_)
 refine WCr (WLa Z (WLv Z (R_addR (r := ((a + 1 : Nat) : Int)) Z Z Z (by rw [wrap64_in (by omega) (by omega)]; omega)) ?_))
 refine WLa Z (WL_nil (WQ_code (WC_block ?_)))
 rw [show cl (ivs (X ++ (l ++ Y)) ++ tl) 3 = cl (ivs (X ++ (isL cf (l.take 1) ++ (l.drop 1 ++ Y))) ++ tl) 3 from by rw [← List.append_assoc (isL cf (l.take 1)), isL_one cf hl]]
 refine WC_loopF (G := Nat) [8, 9, 12, 13, 14, 15, 16, 17, 18, 19, 20, 21, 22, 23, 24, 25, 26, 27, 28, 29, 30, 31, 32, 33, 34, 35, 36, 37, 38, 39, 40, 41, 42, 43, 44, 45, 46, 47, 48, 49, 50, 51, 52] (fun k => 1 ≤ k ∧ k ≤ l.length) (fun k => [(8, .int .i64 ((a + k : Nat) : Int))]) (fun k => [⟨some wa, cl (ivs (X ++ (isL cf (l.take k) ++ (l.drop k ++ Y))) ++ tl) 3⟩]) (fun k => l.length - k) (1) (⟨Nat.le_refl _, hl⟩) leZ pqY ?_
 rintro k ⟨hk1, hk⟩
 refine WC_seq (WCr (WLa Z (WLa Z (WLa Z (WL_nil (WQ_code ?_))))))
 refine WC_dec Z (fun c1 => ?_) (fun c1 => ?_)
 ·refine WC_skip (WQ_code (WC_seq (WC_block (WCr (WLa Z (WLa Z (WL_nil (WQ_code (WC_block ?_)))))))))
  obtain ⟨x, hx⟩ := getE (T := l) (i := k) (by omega)
  have hxl := List.mem_of_getElem? hx
  rw [show cl (ivs (X ++ (isL cf (l.take k) ++ (l.drop k ++ Y))) ++ tl) 3 = cl (ivs (X ++ (isL cf (l.take k) ++ x :: ([] ++ (l.drop (k + 1) ++ Y)))) ++ tl) 3 from by rw [drop_at hx]; rfl]
  refine WC_loopF (G := InsW) [9, 18, 19, 20, 21, 22, 23, 24, 25, 26, 27, 28, 29, 30, 31, 32, 33, 34, 35, 36, 37, 38, 39, 40, 41, 42, 43, 44, 45, 46, 47, 48, 49, 50, 51, 52] (fun y => y.j = a + y.A.length ∧ isL cf (l.take k) = y.A ++ y.B ∧ ∀ z ∈ y.B, cf x z < 0) (fun y => [(9, .int .i64 (y.j : Int))]) (fun y => [⟨some wa, cl (ivs (X ++ (y.A ++ x :: (y.B ++ (l.drop (k + 1) ++ Y)))) ++ tl) 3⟩]) (fun y => y.j) (⟨a + k, isL cf (l.take k), []⟩) (⟨by dsimp only; rw [isL_len, List.length_take]; omega, (List.append_nil _).symm, fun z hz => by cases hz⟩) leZ pqY ?_
  rintro y ⟨hj, hAB, hBx⟩
  have hjk : y.j ≤ a + k := by have h8 := isL_len cf (l.take k); rw [hAB, List.length_append, List.length_take] at h8; omega
  refine WC_seq (WC_seq (WC_draw _ [(0, true), (1, true), (2, true), (3, true), (4, true), (5, true), (6, true), (7, true), (8, true), (9, true), (10, true), (11, true), (12, true), (13, true), (14, false), (15, true), (16, true)] followsMixed Z Z (by kernel_rfl) .all ?_))
  refine WMa Z (WMa Z (WMa Z (WMa Z ?_)))
  refine WM_splitD (s := 21) Z (fun c2 => ?_) (fun c2 => ?_)
  ·obtain ⟨P2, y2, hP⟩ : ∃ P2 y2, y.A = P2 ++ [y2] := by rcases snoc_or y.A with e | e; rw [e] at hj; simp at hj; omega; exact e
   have hjl : y.j = a + P2.length + 1 := by rw [hj, hP, List.length_append]; rfl
   have hxat : (X ++ (y.A ++ x :: (y.B ++ (l.drop (k + 1) ++ Y))))[y.j]? = some x := isrt_at (by omega)
   have hlast : (X ++ (y.A ++ x :: (y.B ++ (l.drop (k + 1) ++ Y))))[a + P2.length]? = some y2 := by rw [hP, List.append_assoc]; exact isrt_at (A := P2) (B := x :: y.B) (x := y2) (by omega)
   have hyl : y2 ∈ l := List.mem_of_mem_take ((isL_perm cf (l.take k)).mem_iff.1 (by rw [hAB, hP]; simp))
   have hLn : (X ++ (y.A ++ x :: (y.B ++ (l.drop (k + 1) ++ Y)))).length = n := by simp only [List.length_append, List.length_cons, List.length_drop]; have h8 := isL_len cf (l.take k); rw [hAB, List.length_append, List.length_take] at h8; omega
   have hsw1 : putAt (ivs (X ++ (y.A ++ x :: (y.B ++ (l.drop (k + 1) ++ Y)))) ++ tl) (0 + (y.j) * 1) [.int .i64 y2] = ivs ((X ++ (y.A ++ x :: (y.B ++ (l.drop (k + 1) ++ Y)))).set (y.j) y2) ++ tl := by have := fm_put0 encI1 y2 hxat (j := 0) (vs := [.int .i64 y2]) (by simp) rfl (tl := tl); rw [Nat.add_zero] at this; exact this
   have hP2at : ((X ++ (y.A ++ x :: (y.B ++ (l.drop (k + 1) ++ Y)))).set y.j y2)[a + P2.length]? = some y2 := by rw [List.getElem?_set_ne (by omega), hlast]
   have hsw2 : putAt (ivs ((X ++ (y.A ++ x :: (y.B ++ (l.drop (k + 1) ++ Y)))).set y.j y2) ++ tl) (0 + (a + P2.length) * 1) [.int .i64 x] = ivs (X ++ (P2 ++ x :: ((y2 :: y.B) ++ (l.drop (k + 1) ++ Y)))) ++ tl := by have := fm_put0 encI1 x hP2at (j := 0) (vs := [.int .i64 x]) (by simp) rfl (tl := tl); rw [Nat.add_zero] at this; rw [show ivs (X ++ (P2 ++ x :: ((y2 :: y.B) ++ (l.drop (k + 1) ++ Y)))) = (((X ++ (y.A ++ x :: (y.B ++ (l.drop (k + 1) ++ Y)))).set y.j y2).set (a + P2.length) x).flatMap encI from congrArg ivs (show X ++ (P2 ++ x :: ((y2 :: y.B) ++ (l.drop (k + 1) ++ Y))) = ((X ++ (y.A ++ x :: (y.B ++ (l.drop (k + 1) ++ Y)))).set y.j y2).set (a + P2.length) x from by rw [hP, hjl]; exact (isrt_swap (by omega)).symm)]; exact this
   refine WMa Z (WMa Z (WMa Z (WMv Z (R_indexAddrN Z Tryz.underlying23 Tryz.sizeOf3 Z Z (by omega)) ?_)))
   refine WMv Z (R_load (v := .int .i64 x) Z sc3 Z mmY (fm_get0 encI1 hxat (j := 0) (by omega))) ?_
   refine WMa Z (WMa Z (WMv Z (R_subR (r := ((a + P2.length : Nat) : Int)) Z Z Z (by rw [wrap64_in (by omega) (by omega)]; omega)) ?_))
   refine WMv Z (R_indexAddrN Z Tryz.underlying23 Tryz.sizeOf3 Z Z (by omega)) ?_
   refine WMv Z (R_load (v := .int .i64 y2) Z sc3 Z mmY (fm_get0 encI1 hlast (j := 0) (by omega))) ?_
   refine WMd Z (D_call (hf x hxl y2 hyl) Z Z Z Z pqY) ?_
   rintro _ _ ⟨_, ⟨rfl, rfl⟩, rfl⟩
   refine ⟨⟨_, pqY⟩, ?_⟩
   refine WMa Z (WMa Z (WM_nil (WQ_code ?_)))
   refine WC_dec Z (fun c3 => ?_) (fun c3 => ?_)
   ·have hc := c3
    refine WC_skip (WQ_code (WC_seq (WC_block (WC_drawE [⟨some wa, _⟩] [(0, false), (1, false), (2, false), (3, false), (4, false), (5, false), (6, false), (7, false), (8, false), (9, true), (10, false), (11, false), (12, false), (13, true)] [(14, true), (15, false), (16, true), (17, false)] followsMixed Z Z (by kernel_rfl) pqY ?_))))
    refine WZ_val Z Z Z Z (R_move Z Z) ?_
    refine WZ_val Z Z Z Z (R_move Z Z) ?_
    refine WZ_val Z Z Z Z (R_move Z Z) ?_
    refine WZ_val Z Z Z Z (R_move Z Z) ?_
    refine WZ_val Z Z Z Z (R_subR (r := ((a + P2.length : Nat) : Int)) Z Z Z (by rw [wrap64_in (by omega) (by omega)]; omega)) ?_
    refine WZ_val Z Z Z Z (R_move Z Z) ?_
    refine WZ_val Z Z Z Z (R_move Z Z) ?_
    refine WZ_val Z Z Z Z (R_subR (r := ((a + P2.length : Nat) : Int)) Z Z Z (by rw [wrap64_in (by omega) (by omega)]; omega)) ?_
    refine WZ_val Z Z Z Z (R_indexAddrN Z Tryz.underlying23 Tryz.sizeOf3 Z Z (by omega)) ?_
    refine WZ_early Z Z Z Z (R_load (v := .int .i64 y2) Z sc3 Z mmY (fm_get0 encI1 hlast (j := 0) (by omega))) ?_
    refine WZ_val Z Z Z Z (R_move Z Z) ?_
    refine WZ_val Z Z Z Z (R_move Z Z) ?_
    refine WZ_val Z Z Z Z (R_indexAddrN Z Tryz.underlying23 Tryz.sizeOf3 Z Z (by omega)) ?_
    refine WZ_early Z Z Z Z (R_load (v := .int .i64 x) Z sc3 Z mmY (fm_get0 encI1 hxat (j := 0) (by omega))) ?_
    refine WZ_rest ?_
    refine WMv Z (R_indexAddrN Z Tryz.underlying23 Tryz.sizeOf3 Z Z (by omega)) ?_
    refine WM_do0 Z Z Z (D_store (vs := [_]) Z Tryz.sizeOf3 Z Z Z Z Z plY (by exact fm_room0 encI1 (show y.j < (X ++ (y.A ++ x :: (y.B ++ (l.drop (k + 1) ++ Y)))).length by omega) (j := 0) (by omega))) ?_
    rintro _ _ rfl
    refine ⟨⟨_, pqY⟩, ?_⟩
    rw [hsw1]
    refine WMv Z (R_indexAddrN Z Tryz.underlying23 Tryz.sizeOf3 Z Z (by omega)) ?_
    refine WM_do0 Z Z Z (D_store (vs := [_]) Z Tryz.sizeOf3 Z Z Z Z Z plY (by exact fm_room0 encI1 (show a + P2.length < ((X ++ (y.A ++ x :: (y.B ++ (l.drop (k + 1) ++ Y)))).set y.j y2).length by rw [List.length_set]; omega) (j := 0) (by omega))) ?_
    rintro _ _ rfl
    refine ⟨⟨_, pqY⟩, ?_⟩
    rw [hsw2]
    refine WM_nil (WQ_code (WC_region (WLa Z (WLv Z (R_subR (r := ((a + P2.length : Nat) : Int)) Z Z Z (by rw [wrap64_in (by omega) (by omega)]; omega)) ?_))))
    refine WLa Z (WL_nil ?_)
    refine WQ_nextF (⟨a + P2.length, P2, y2 :: y.B⟩) (⟨Z, by rw [hAB, hP]; simp, fun z hz => by rcases List.mem_cons.1 hz with rfl | hz; exact hc; exact hBx z hz⟩) (by dsimp only; omega) leZ (psZ) Z pqY
   ·have hc := c3
    have hex : y.A = [] ∨ ∃ P z, y.A = P ++ [z] ∧ ¬ cf x z < 0 := .inr ⟨P2, y2, hP, hc⟩
    refine WC_exit (WQ_code (WC_region (WLa Z (WLv Z (R_addR (r := ((a + (k + 1) : Nat) : Int)) Z Z Z (by rw [wrap64_in (by omega) (by omega)]; omega)) ?_))))
    refine WLa Z (WL_nil ?_)
    rw [show cl (ivs (X ++ (y.A ++ x :: (y.B ++ (l.drop (k + 1) ++ Y)))) ++ tl) 3 = cl (ivs (X ++ (isL cf (l.take (k + 1)) ++ (l.drop (k + 1) ++ Y))) ++ tl) 3 from by rw [isL_next hx, hAB, insR_eq hBx hex]; simp]
    refine WQ_nextF (k + 1) (⟨by omega, by omega⟩) (by omega) leZ (psZ) Z pqY
  ·have hex : y.A = [] ∨ ∃ P z, y.A = P ++ [z] ∧ ¬ cf x z < 0 := .inl (List.eq_nil_of_length_eq_zero (by omega))
   refine WMa Z (WMa Z (WMa Z (WMa Z (WMa Z (WMa Z (WMa Z (WMa Z (WMa Z (WMa Z (WM_skipF Z Z Z Z pqY ?_))))))))))
   refine WMa Z (WMa Z (WM_nil (WQ_code (WC_F Z (WC_exit (WQ_code (WC_region (WLa Z (WLv Z (R_addR (r := ((a + (k + 1) : Nat) : Int)) Z Z Z (by rw [wrap64_in (by omega) (by omega)]; omega)) ?_)))))))))
   refine WLa Z (WL_nil ?_)
   rw [show cl (ivs (X ++ (y.A ++ x :: (y.B ++ (l.drop (k + 1) ++ Y)))) ++ tl) 3 = cl (ivs (X ++ (isL cf (l.take (k + 1)) ++ (l.drop (k + 1) ++ Y))) ++ tl) 3 from by rw [isL_next hx, hAB, insR_eq hBx hex]; simp]
   refine WQ_nextF (k + 1) (⟨by omega, by omega⟩) (by omega) leZ (psZ) Z pqY
 ·have hkl : k = l.length := by omega
  refine WC_exit ?_
  rw [hkl, List.take_length, List.drop_length, List.nil_append]
  refine WQ2 Z (by
    exact ⟨rfl, rfl⟩) pqY
theorem isrtX_ok (X l Y : List Int) (n : Nat) (hn : X.length + l.length + Y.length = n) (hn2 : n ≤ 1000000) (wa c : Nat) (tl : List Value) (gf : Nat) (ca : List Value) (Hc : Heap) (cf : Int → Int → Int) (hf : ∀ a ∈ l, ∀ b ∈ l, Spec Tryz.prog gf (.int .i64 a :: .int .i64 b :: ca) Hc (fun r H' => r = .int .i64 (cf a b) ∧ Hc = H')) (a b : Nat) (ha : a = X.length) (hb : b = a + l.length) :
  Spec Tryz.prog 164 [slV (some wa) n c, .int .i64 (a : Int), .int .i64 (b : Int), .func (.func gf) #[] ca.toArray] (⟨some wa, cl (ivs (X ++ (l ++ Y)) ++ tl) 3⟩ :: Hc) (fun r H' => r = .tuple #[] ∧ H' = ⟨some wa, cl (ivs (X ++ (isL cf l ++ Y)) ++ tl) 3⟩ :: Hc) := by
 by_cases hl : 1 ≤ l.length
 ·exact isrtX_do X l Y n hn hn2 wa c tl gf ca Hc cf hf hl a b ha hb
 ·have h0 : l = [] := List.eq_nil_of_length_eq_zero (by omega)
  subst h0
  exact ((isrtX_nil [] n wa c tl (.func (.func gf) #[] ca.toArray) a b (by rw [hb]; exact Nat.le_succ _) (by omega)).fr (⟨some wa, cl (ivs (X ++ ([] ++ Y)) ++ tl) 3⟩ :: Hc)).mono fun r H' ⟨H1, ⟨h1, h2⟩, h3⟩ => ⟨h1, by rw [h3, h2]; rfl⟩
theorem sym_A (wa c : Nat) (tl : List Value) (gf : Nat) (ca : List Value) (Hc : Heap) (cf : Int → Int → Int) (lt : Int → Int → Prop) (ho : Sto lt) (X A B Y : List Int) (n : Nat) (hn : X.length + A.length + B.length + Y.length = n) (hn2 : n ≤ 1000000) (hA1 : 1 ≤ A.length) (hB1 : 1 ≤ B.length) (pA : A.Pairwise lt) (pB : B.Pairwise lt) (hcr : CRel cf lt A B) (hf : ∀ a ∈ A, ∀ b ∈ B, Spec Tryz.prog gf (.int .i64 b :: .int .i64 a :: ca) Hc (fun r H' => r = .int .i64 (cf b a) ∧ Hc = H')) (a m b : Nat) (ha : a = X.length) (hm : m = a + A.length) (hb : b = m + B.length) (h1 : A.length = 1) : Spec Tryz.prog 172 [slV (some wa) n c, .int .i64 (a : Int), .int .i64 (m : Int), .int .i64 (b : Int), .func (.func gf) #[] ca.toArray] (⟨some wa, cl (ivs (X ++ (A ++ (B ++ Y))) ++ tl) 3⟩ :: Hc) (fun r H' => ∃ R, r = .tuple #[] ∧ R.Perm (A ++ B) ∧ R.Pairwise lt ∧ H' = ⟨some wa, cl (ivs (X ++ (R ++ Y)) ++ tl) 3⟩ :: Hc) := by
 obtain ⟨x, hAx⟩ := List.length_eq_one_iff.1 h1
 subst hAx
 have hxA : x ∈ [x] := List.mem_cons_self ..
 rw [List.length_singleton] at hm
 refine Spec.of (E := [(0, slV (some wa) n c), (1, .int .i64 (a : Int)), (2, .int .i64 (m : Int)), (3, .int .i64 (b : Int)), (4, .func (.func gf) #[] ca.toArray)]) Tryz.func172 rfl (by kernel_rfl) Tryz.ntmps172 rfl rfl (fun w => ?_)
 refine WC_seq (WCr (WLa Z (WLa Z (WLv Z (R_subR (r := ((m - a : Nat) : Int)) Z Z Z (by rw [wrap64_in (by omega) (by omega)] <;> omega)) ?_))))
 refine WLa Z (WL_nil (WQ_code (WC_dT Z (by omega) ?_)))
 refine WCr (WLa Z (WLa Z (WL_nil (WQ_code (WCr (WLa Z (WLa Z (WL_nil (WQ_code (WC_seq (WC_block (WC_loopF (G := SeW) [10, 11, 12, 31, 32, 33, 34, 35, 36, 37, 38, 39, 40, 41, 42, 43, 44, 45, 46, 47, 48, 49, 50, 51, 52, 53] (fun y => m ≤ y.i ∧ y.i ≤ y.j ∧ y.j ≤ b ∧ (∀ z ∈ B.take (y.i - m), lt z x) ∧ (∀ z ∈ B.drop (y.j - m), ¬ lt z x)) (fun y => [(10, .int .i64 (y.i : Int)), (11, .int .i64 (y.j : Int))]) (fun y => []) (fun y => y.j - y.i) (⟨m, b⟩) (⟨Nat.le_refl _, by dsimp only; omega, Nat.le_refl _, fun z hz => by dsimp only at hz; rw [Nat.sub_self] at hz; (cases hz), fun z hz => by dsimp only at hz; rw [List.drop_eq_nil_of_le (by omega)] at hz; (cases hz)⟩) leZ pqY ?_))))))))))))
 rintro y ⟨hmi, hle, hjb, hlo, hhi⟩
 refine WC_seq (WCr (WLa Z (WLa Z (WLa Z (WL_nil (WQ_code ?_))))))
 refine WC_dec Z (fun c1 => ?_) (fun c1 => ?_)
 ·refine WC_skip (WQ_code (WC_block (WCr (WLa Z (WLa Z (WLv Z (R_addR (r := ((y.i + y.j : Nat) : Int)) Z Z Z (by rw [wrap64_in (by omega) (by omega)] <;> omega)) ?_))))))
  refine WLv Z (R_conv (r := ((y.i + y.j : Nat) : Int)) Z Tryz.underlying3 Tryz.underlying44 Z (by rw [w64 ⟨by omega, by omega⟩])) ?_
  refine WLv Z (R_shrR (r := (((y.i + y.j) / 2 : Nat) : Int)) Z Z Z (by omega) (shr1 (y.i + y.j))) ?_
  refine WLv Z (R_conv (r := (((y.i + y.j) / 2 : Nat) : Int)) Z Tryz.underlying44 Tryz.underlying3 Z (by rw [wrap64_in (by omega) (by omega)] <;> omega)) ?_
  refine WLa Z (WL_nil (WQ_code (WC_seq (WC_draw _ [(0, true), (1, true), (2, true), (3, true), (4, true), (5, true), (6, true), (7, true), (8, true), (9, false), (10, true)] followsMixed Z Z (by kernel_rfl) .all ?_))))
  obtain ⟨z, hz⟩ := getE (T := B) (i := (y.i + y.j) / 2 - m) (by omega)
  have hzB := List.mem_of_getElem? hz
  have hzL : (X ++ ([x] ++ (B ++ Y)))[(y.i + y.j) / 2]? = some z := at_in2 hz (by rw [List.length_singleton]; omega)
  have hxL : (X ++ ([x] ++ (B ++ Y)))[a]? = some x := at_in (i := 0) rfl (by omega)
  refine WMa Z (WMa Z (WMa Z (WMv Z (R_indexAddrN Z Tryz.underlying23 Tryz.sizeOf3 Z Z (by omega)) ?_)))
  refine WMv Z (R_load (v := .int .i64 z) Z sc3 Z mmY (fm_get0 encI1 hzL (j := 0) (by omega))) ?_
  refine WMa Z (WMa Z (WMv Z (R_indexAddrN Z Tryz.underlying23 Tryz.sizeOf3 Z Z (by omega)) ?_))
  refine WMv Z (R_load (v := .int .i64 x) Z sc3 Z mmY (fm_get0 encI1 hxL (j := 0) (by omega))) ?_
  refine WMd Z (D_call (hf x hxA z hzB) Z Z Z Z pqY) ?_
  rintro _ _ ⟨_, ⟨rfl, rfl⟩, rfl⟩
  refine ⟨⟨_, pqY⟩, ?_⟩
  refine WMa Z (WM_nil (WQ_code ?_))
  refine WC_dec Z (fun c2 => ?_) (fun c2 => ?_)
  ·have hzx : lt z x := (hcr x hxA z hzB).1.1 c2
   refine WC_region (WLa Z (WLv Z (R_addR (r := (((y.i + y.j) / 2 + 1 : Nat) : Int)) Z Z Z (by rw [wrap64_in (by omega) (by omega)] <;> omega)) ?_))
   refine WLa Z (WL_nil ?_)
   refine WQ_nextF (⟨(y.i + y.j) / 2 + 1, y.j⟩) (⟨by dsimp only; omega, by dsimp only; omega, hjb, by dsimp only; rw [show (y.i + y.j) / 2 + 1 - m = (y.i + y.j) / 2 - m + 1 from by omega]; exact s1_T ho pB hz hzx, hhi⟩) (by dsimp only; omega) leZ (psZ) Z pqY
  ·have hzx : ¬ lt z x := fun e => c2 ((hcr x hxA z hzB).1.2 e)
   refine WC_region (WLa Z (WLa Z (WL_nil ?_)))
   refine WQ_nextF (⟨y.i, (y.i + y.j) / 2⟩) (⟨hmi, by dsimp only; omega, by dsimp only; omega, hlo, by dsimp only; exact s1_F ho pB hz hzx⟩) (by dsimp only; omega) leZ (psZ) Z pqY
 ·have hij : y.i = y.j := by omega
  refine WC_exit (WQ_code (WC_seq (WCr (WLa Z (WLa Z (WL_nil (WQ_code (WC_block ?_))))))))
  rw [show cl (ivs (X ++ ([x] ++ (B ++ Y))) ++ tl) 3 = cl (ivs (X ++ (B.take 0 ++ x :: (B.drop 0 ++ Y))) ++ tl) 3 from rfl]
  refine WC_loopF (G := Nat) [13, 55, 56, 57, 58, 59, 60, 61, 62, 63, 64, 65, 66, 67, 68, 69, 70, 71, 72, 73, 74, 75, 76] (fun t => t ≤ y.i - m) (fun t => [(13, .int .i64 ((a + t : Nat) : Int))]) (fun t => [⟨some wa, cl (ivs (X ++ (B.take t ++ x :: (B.drop t ++ Y))) ++ tl) 3⟩]) (fun t => y.i - t) (0) (Nat.zero_le _) leZ pqY ?_
  rintro t htm
  refine WC_seq (WCr (WLa Z (WLa Z (WLv Z (R_subR (r := ((y.i - 1 : Nat) : Int)) Z Z Z (by rw [wrap64_in (by omega) (by omega)] <;> omega)) ?_))))
  refine WLa Z (WL_nil (WQ_code ?_))
  refine WC_dec Z (fun c3 => ?_) (fun c3 => ?_)
  ·refine WC_skip (WQ_code (WC_seq (WC_block (WC_drawE [⟨some wa, _⟩] [(0, false), (1, false), (2, false), (3, false), (4, false), (5, false), (6, false), (7, false), (8, false), (9, true), (10, false), (11, false), (12, false), (13, true)] [(14, true), (15, false), (16, true), (17, false)] followsMixed Z Z (by kernel_rfl) pqY ?_))))
   obtain ⟨wv, hw⟩ := getE (T := B) (i := t) (by omega)
   have hlen := ins_len (X := X) (B := B) (Y := Y) (x := x) t
   have hxt : (X ++ (B.take t ++ x :: (B.drop t ++ Y)))[a + t]? = some x := ins_at1 (by omega) (by omega)
   have hwL : (X ++ (B.take t ++ x :: (B.drop t ++ Y)))[a + t + 1]? = some wv := ins_at2 hw (by omega)
   have hsw1 : putAt (ivs (X ++ (B.take t ++ x :: (B.drop t ++ Y))) ++ tl) (0 + (a + t) * 1) [.int .i64 wv] = ivs ((X ++ (B.take t ++ x :: (B.drop t ++ Y))).set (a + t) wv) ++ tl := by have := fm_put0 encI1 wv hxt (j := 0) (vs := [.int .i64 wv]) (by simp) rfl (tl := tl); rw [Nat.add_zero] at this; exact this
   have hw2 : ((X ++ (B.take t ++ x :: (B.drop t ++ Y))).set (a + t) wv)[a + t + 1]? = some wv := by rw [List.getElem?_set_ne (by omega), hwL]
   have hsw2 : putAt (ivs ((X ++ (B.take t ++ x :: (B.drop t ++ Y))).set (a + t) wv) ++ tl) (0 + (a + t + 1) * 1) [.int .i64 x] = ivs (X ++ (B.take (t + 1) ++ x :: (B.drop (t + 1) ++ Y))) ++ tl := by have := fm_put0 encI1 x hw2 (j := 0) (vs := [.int .i64 x]) (by simp) rfl (tl := tl); rw [Nat.add_zero] at this; rw [show ivs (X ++ (B.take (t + 1) ++ x :: (B.drop (t + 1) ++ Y))) = (((X ++ (B.take t ++ x :: (B.drop t ++ Y))).set (a + t) wv).set (a + t + 1) x).flatMap encI from congrArg ivs (show X ++ (B.take (t + 1) ++ x :: (B.drop (t + 1) ++ Y)) = ((X ++ (B.take t ++ x :: (B.drop t ++ Y))).set (a + t) wv).set (a + t + 1) x from (ins_up hw (by omega)).symm)]; exact this
   refine WZ_val Z Z Z Z (R_move Z Z) ?_
   refine WZ_val Z Z Z Z (R_move Z Z) ?_
   refine WZ_val Z Z Z Z (R_move Z Z) ?_
   refine WZ_val Z Z Z Z (R_move Z Z) ?_
   refine WZ_val Z Z Z Z (R_addR (r := ((a + t + 1 : Nat) : Int)) Z Z Z (by rw [wrap64_in (by omega) (by omega)] <;> omega)) ?_
   refine WZ_val Z Z Z Z (R_move Z Z) ?_
   refine WZ_val Z Z Z Z (R_move Z Z) ?_
   refine WZ_val Z Z Z Z (R_addR (r := ((a + t + 1 : Nat) : Int)) Z Z Z (by rw [wrap64_in (by omega) (by omega)] <;> omega)) ?_
   refine WZ_val Z Z Z Z (R_indexAddrN Z Tryz.underlying23 Tryz.sizeOf3 Z Z (by omega)) ?_
   refine WZ_early Z Z Z Z (R_load (v := .int .i64 wv) Z sc3 Z mmY (fm_get0 encI1 hwL (j := 0) (by omega))) ?_
   refine WZ_val Z Z Z Z (R_move Z Z) ?_
   refine WZ_val Z Z Z Z (R_move Z Z) ?_
   refine WZ_val Z Z Z Z (R_indexAddrN Z Tryz.underlying23 Tryz.sizeOf3 Z Z (by omega)) ?_
   refine WZ_early Z Z Z Z (R_load (v := .int .i64 x) Z sc3 Z mmY (fm_get0 encI1 hxt (j := 0) (by omega))) ?_
   refine WZ_rest ?_
   refine WMv Z (R_indexAddrN Z Tryz.underlying23 Tryz.sizeOf3 Z Z (by omega)) ?_
   refine WM_do0 Z Z Z (D_store (vs := [_]) Z Tryz.sizeOf3 Z Z Z Z Z plY (by exact fm_room0 encI1 (show a + t < (X ++ (B.take t ++ x :: (B.drop t ++ Y))).length by omega) (j := 0) (by omega))) ?_
   rintro _ _ rfl
   refine ⟨⟨_, pqY⟩, ?_⟩
   rw [hsw1]
   refine WMv Z (R_indexAddrN Z Tryz.underlying23 Tryz.sizeOf3 Z Z (by omega)) ?_
   refine WM_do0 Z Z Z (D_store (vs := [_]) Z Tryz.sizeOf3 Z Z Z Z Z plY (by exact fm_room0 encI1 (show a + t + 1 < ((X ++ (B.take t ++ x :: (B.drop t ++ Y))).set (a + t) wv).length by rw [List.length_set]; omega) (j := 0) (by omega))) ?_
   rintro _ _ rfl
   refine ⟨⟨_, pqY⟩, ?_⟩
   rw [hsw2]
   refine WM_nil (WQ_code (WC_region (WLa Z (WLv Z (R_addR (r := ((a + (t + 1) : Nat) : Int)) Z Z Z (by rw [wrap64_in (by omega) (by omega)] <;> omega)) ?_))))
   refine WLa Z (WL_nil ?_)
   refine WQ_nextF (t + 1) (by omega) (by omega) leZ (psZ) Z pqY
  ·have htq : t = y.i - m := by omega
   refine WC_exit (WQ_code (WC_ret ?_))
   rw [show X ++ (B.take t ++ x :: (B.drop t ++ Y)) = X ++ ((B.take t ++ x :: B.drop t) ++ Y) from by simp]
   refine WQ2 Z (by
     have hQ : ∀ z ∈ B.drop (y.i - m), lt x z := fun z hz => by rw [hij] at hz; exact (hcr x hxA z (List.mem_of_mem_drop hz)).2.resolve_right (hhi z hz)
     exact ⟨B.take t ++ x :: B.drop t, rfl, ins_perm B x t, by rw [htq]; exact ins_srtT ho pB hlo hQ, rfl⟩) pqY
theorem sym_B (wa c : Nat) (tl : List Value) (gf : Nat) (ca : List Value) (Hc : Heap) (cf : Int → Int → Int) (lt : Int → Int → Prop) (ho : Sto lt) (X A B Y : List Int) (n : Nat) (hn : X.length + A.length + B.length + Y.length = n) (hn2 : n ≤ 1000000) (hA1 : 1 ≤ A.length) (hB1 : 1 ≤ B.length) (pA : A.Pairwise lt) (pB : B.Pairwise lt) (hcr : CRel cf lt A B) (hf : ∀ a ∈ A, ∀ b ∈ B, Spec Tryz.prog gf (.int .i64 b :: .int .i64 a :: ca) Hc (fun r H' => r = .int .i64 (cf b a) ∧ Hc = H')) (a m b : Nat) (ha : a = X.length) (hm : m = a + A.length) (hb : b = m + B.length) (h1 : A.length ≠ 1) (h2 : B.length = 1) : Spec Tryz.prog 172 [slV (some wa) n c, .int .i64 (a : Int), .int .i64 (m : Int), .int .i64 (b : Int), .func (.func gf) #[] ca.toArray] (⟨some wa, cl (ivs (X ++ (A ++ (B ++ Y))) ++ tl) 3⟩ :: Hc) (fun r H' => ∃ R, r = .tuple #[] ∧ R.Perm (A ++ B) ∧ R.Pairwise lt ∧ H' = ⟨some wa, cl (ivs (X ++ (R ++ Y)) ++ tl) 3⟩ :: Hc) := by
 obtain ⟨wv, hBx⟩ := List.length_eq_one_iff.1 h2
 subst hBx
 have hwB : wv ∈ [wv] := List.mem_cons_self ..
 rw [List.length_singleton] at hb
 refine Spec.of (E := [(0, slV (some wa) n c), (1, .int .i64 (a : Int)), (2, .int .i64 (m : Int)), (3, .int .i64 (b : Int)), (4, .func (.func gf) #[] ca.toArray)]) Tryz.func172 rfl (by kernel_rfl) Tryz.ntmps172 rfl rfl (fun w => ?_)
 refine WC_seq (WCr (WLa Z (WLa Z (WLv Z (R_subR (r := ((m - a : Nat) : Int)) Z Z Z (by rw [wrap64_in (by omega) (by omega)] <;> omega)) ?_))))
 refine WLa Z (WL_nil (WQ_code (WC_dF Z (by omega) ?_)))
 refine WC_skip (WQ_code (WC_seq (WCr (WLa Z (WLa Z (WLv Z (R_subR (r := ((b - m : Nat) : Int)) Z Z Z (by rw [wrap64_in (by omega) (by omega)] <;> omega)) ?_))))))
 refine WLa Z (WL_nil (WQ_code (WC_dT Z (by omega) ?_)))
 refine WCr (WLa Z (WLa Z (WL_nil (WQ_code (WCr (WLa Z (WLa Z (WL_nil (WQ_code (WC_seq (WC_block (WC_loopF (G := SeW) [14, 15, 16, 83, 84, 85, 86, 87, 88, 89, 90, 91, 92, 93, 94, 95, 96, 97, 98, 99, 100, 101, 102, 103, 104, 105, 106] (fun y => a ≤ y.i ∧ y.i ≤ y.j ∧ y.j ≤ m ∧ (∀ z ∈ A.take (y.i - a), lt z wv) ∧ (∀ z ∈ A.drop (y.j - a), lt wv z)) (fun y => [(14, .int .i64 (y.i : Int)), (15, .int .i64 (y.j : Int))]) (fun y => []) (fun y => y.j - y.i) (⟨a, m⟩) (⟨Nat.le_refl _, by dsimp only; omega, Nat.le_refl _, fun z hz => by dsimp only at hz; rw [Nat.sub_self] at hz; (cases hz), fun z hz => by dsimp only at hz; rw [List.drop_eq_nil_of_le (by omega)] at hz; (cases hz)⟩) leZ pqY ?_))))))))))))
 rintro y ⟨hmi, hle, hjb, hlo, hhi⟩
 refine WC_seq (WCr (WLa Z (WLa Z (WLa Z (WL_nil (WQ_code ?_))))))
 refine WC_dec Z (fun c1 => ?_) (fun c1 => ?_)
 ·refine WC_skip (WQ_code (WC_block (WCr (WLa Z (WLa Z (WLv Z (R_addR (r := ((y.i + y.j : Nat) : Int)) Z Z Z (by rw [wrap64_in (by omega) (by omega)] <;> omega)) ?_))))))
  refine WLv Z (R_conv (r := ((y.i + y.j : Nat) : Int)) Z Tryz.underlying3 Tryz.underlying44 Z (by rw [w64 ⟨by omega, by omega⟩])) ?_
  refine WLv Z (R_shrR (r := (((y.i + y.j) / 2 : Nat) : Int)) Z Z Z (by omega) (shr1 (y.i + y.j))) ?_
  refine WLv Z (R_conv (r := (((y.i + y.j) / 2 : Nat) : Int)) Z Tryz.underlying44 Tryz.underlying3 Z (by rw [wrap64_in (by omega) (by omega)] <;> omega)) ?_
  refine WLa Z (WL_nil (WQ_code (WC_seq (WC_draw _ [(0, true), (1, true), (2, true), (3, true), (4, true), (5, true), (6, true), (7, true), (8, true), (9, false), (10, true), (11, true)] followsMixed Z Z (by kernel_rfl) .all ?_))))
  obtain ⟨z, hz⟩ := getE (T := A) (i := (y.i + y.j) / 2 - a) (by omega)
  have hzA := List.mem_of_getElem? hz
  have hzL : (X ++ (A ++ ([wv] ++ Y)))[(y.i + y.j) / 2]? = some z := at_in hz (by omega)
  have hwL : (X ++ (A ++ ([wv] ++ Y)))[m]? = some wv := at_in2 (i := 0) rfl (by omega)
  refine WMa Z (WMa Z (WMa Z (WMv Z (R_indexAddrN Z Tryz.underlying23 Tryz.sizeOf3 Z Z (by omega)) ?_)))
  refine WMv Z (R_load (v := .int .i64 wv) Z sc3 Z mmY (fm_get0 encI1 hwL (j := 0) (by omega))) ?_
  refine WMa Z (WMa Z (WMv Z (R_indexAddrN Z Tryz.underlying23 Tryz.sizeOf3 Z Z (by omega)) ?_))
  refine WMv Z (R_load (v := .int .i64 z) Z sc3 Z mmY (fm_get0 encI1 hzL (j := 0) (by omega))) ?_
  refine WMd Z (D_call (hf z hzA wv hwB) Z Z Z Z pqY) ?_
  rintro _ _ ⟨_, ⟨rfl, rfl⟩, rfl⟩
  refine ⟨⟨_, pqY⟩, ?_⟩
  refine WMa Z (WMv Z (R_notD Z Z) ?_)
  refine WM_nil (WQ_code ?_)
  refine WC_dec Z (fun c2 => ?_) (fun c2 => ?_)
  ·have hzx : lt z wv := (hcr z hzA wv hwB).2.resolve_right (fun e => (c2) ((hcr z hzA wv hwB).1.2 e))
   refine WC_region (WLa Z (WLv Z (R_addR (r := (((y.i + y.j) / 2 + 1 : Nat) : Int)) Z Z Z (by rw [wrap64_in (by omega) (by omega)] <;> omega)) ?_))
   refine WLa Z (WL_nil ?_)
   refine WQ_nextF (⟨(y.i + y.j) / 2 + 1, y.j⟩) (⟨by dsimp only; omega, by dsimp only; omega, hjb, by dsimp only; rw [show (y.i + y.j) / 2 + 1 - a = (y.i + y.j) / 2 - a + 1 from by omega]; exact s1_T ho pA hz hzx, hhi⟩) (by dsimp only; omega) leZ (psZ) Z pqY
  ·have hzx : lt wv z := (hcr z hzA wv hwB).1.1 (Decidable.byContradiction c2)
   refine WC_region (WLa Z (WLa Z (WL_nil ?_)))
   refine WQ_nextF (⟨y.i, (y.i + y.j) / 2⟩) (⟨hmi, by dsimp only; omega, by dsimp only; omega, hlo, by dsimp only; exact s2_F ho pA hz hzx⟩) (by dsimp only; omega) leZ (psZ) Z pqY
 ·have hij : y.i = y.j := by omega
  refine WC_exit (WQ_code (WC_seq (WCr (WLa Z (WLa Z (WL_nil (WQ_code (WC_block ?_))))))))
  rw [show cl (ivs (X ++ (A ++ ([wv] ++ Y))) ++ tl) 3 = cl (ivs (X ++ (A.take A.length ++ wv :: (A.drop A.length ++ Y))) ++ tl) 3 from by rw [List.take_length, List.drop_length]; rfl]
  refine WC_loopF (G := Nat) [17, 108, 109, 110, 111, 112, 113, 114, 115, 116, 117, 118, 119, 120, 121, 122, 123, 124, 125, 126, 127, 128] (fun t => y.i - a ≤ t ∧ t ≤ A.length) (fun t => [(17, .int .i64 ((a + t : Nat) : Int))]) (fun t => [⟨some wa, cl (ivs (X ++ (A.take t ++ wv :: (A.drop t ++ Y))) ++ tl) 3⟩]) (fun t => t) (A.length) (⟨by omega, Nat.le_refl _⟩) leZ pqY ?_
  rintro t ⟨htm, htA⟩
  refine WC_seq (WCr (WLa Z (WLa Z (WLa Z (WL_nil (WQ_code ?_))))))
  refine WC_dec Z (fun c3 => ?_) (fun c3 => ?_)
  ·refine WC_skip (WQ_code (WC_seq (WC_block (WC_drawE [⟨some wa, _⟩] [(0, false), (1, false), (2, false), (3, false), (4, false), (5, false), (6, false), (7, false), (8, false), (9, true), (10, false), (11, false), (12, false), (13, true)] [(14, true), (15, false), (16, true), (17, false)] followsMixed Z Z (by kernel_rfl) pqY ?_))))
   obtain ⟨t1, ht1⟩ : ∃ t1, t = t1 + 1 := ⟨t - 1, by omega⟩
   obtain ⟨z, hz⟩ := getE (T := A) (i := t1) (by omega)
   have hlen := ins_len (X := X) (B := A) (Y := Y) (x := wv) t
   have hwt : (X ++ (A.take t ++ wv :: (A.drop t ++ Y)))[a + t]? = some wv := ins_at1 (by omega) (by omega)
   have hzt : (X ++ (A.take t ++ wv :: (A.drop t ++ Y)))[a + t1]? = some z := by rw [ht1]; exact ins_at0 hz (by omega)
   have hsw1 : putAt (ivs (X ++ (A.take t ++ wv :: (A.drop t ++ Y))) ++ tl) (0 + (a + t) * 1) [.int .i64 z] = ivs ((X ++ (A.take t ++ wv :: (A.drop t ++ Y))).set (a + t) z) ++ tl := by have := fm_put0 encI1 z hwt (j := 0) (vs := [.int .i64 z]) (by simp) rfl (tl := tl); rw [Nat.add_zero] at this; exact this
   have hz2 : ((X ++ (A.take t ++ wv :: (A.drop t ++ Y))).set (a + t) z)[a + t1]? = some z := by rw [List.getElem?_set_ne (by omega), hzt]
   have hsw2 : putAt (ivs ((X ++ (A.take t ++ wv :: (A.drop t ++ Y))).set (a + t) z) ++ tl) (0 + (a + t1) * 1) [.int .i64 wv] = ivs (X ++ (A.take t1 ++ wv :: (A.drop t1 ++ Y))) ++ tl := by have := fm_put0 encI1 wv hz2 (j := 0) (vs := [.int .i64 wv]) (by simp) rfl (tl := tl); rw [Nat.add_zero] at this; rw [show ivs (X ++ (A.take t1 ++ wv :: (A.drop t1 ++ Y))) = (((X ++ (A.take t ++ wv :: (A.drop t ++ Y))).set (a + t) z).set (a + t1) wv).flatMap encI from congrArg ivs (show X ++ (A.take t1 ++ wv :: (A.drop t1 ++ Y)) = ((X ++ (A.take t ++ wv :: (A.drop t ++ Y))).set (a + t) z).set (a + t1) wv from by rw [ht1]; exact (ins_dn (a := a + t1) hz (by omega)).symm)]; exact this
   refine WZ_val Z Z Z Z (R_move Z Z) ?_
   refine WZ_val Z Z Z Z (R_move Z Z) ?_
   refine WZ_val Z Z Z Z (R_move Z Z) ?_
   refine WZ_val Z Z Z Z (R_move Z Z) ?_
   refine WZ_val Z Z Z Z (R_subR (r := ((a + t1 : Nat) : Int)) Z Z Z (by rw [wrap64_in (by omega) (by omega)] <;> omega)) ?_
   refine WZ_val Z Z Z Z (R_move Z Z) ?_
   refine WZ_val Z Z Z Z (R_move Z Z) ?_
   refine WZ_val Z Z Z Z (R_subR (r := ((a + t1 : Nat) : Int)) Z Z Z (by rw [wrap64_in (by omega) (by omega)] <;> omega)) ?_
   refine WZ_val Z Z Z Z (R_indexAddrN Z Tryz.underlying23 Tryz.sizeOf3 Z Z (by omega)) ?_
   refine WZ_early Z Z Z Z (R_load (v := .int .i64 z) Z sc3 Z mmY (fm_get0 encI1 hzt (j := 0) (by omega))) ?_
   refine WZ_val Z Z Z Z (R_move Z Z) ?_
   refine WZ_val Z Z Z Z (R_move Z Z) ?_
   refine WZ_val Z Z Z Z (R_indexAddrN Z Tryz.underlying23 Tryz.sizeOf3 Z Z (by omega)) ?_
   refine WZ_early Z Z Z Z (R_load (v := .int .i64 wv) Z sc3 Z mmY (fm_get0 encI1 hwt (j := 0) (by omega))) ?_
   refine WZ_rest ?_
   refine WMv Z (R_indexAddrN Z Tryz.underlying23 Tryz.sizeOf3 Z Z (by omega)) ?_
   refine WM_do0 Z Z Z (D_store (vs := [_]) Z Tryz.sizeOf3 Z Z Z Z Z plY (by exact fm_room0 encI1 (show a + t < (X ++ (A.take t ++ wv :: (A.drop t ++ Y))).length by omega) (j := 0) (by omega))) ?_
   rintro _ _ rfl
   refine ⟨⟨_, pqY⟩, ?_⟩
   rw [hsw1]
   refine WMv Z (R_indexAddrN Z Tryz.underlying23 Tryz.sizeOf3 Z Z (by omega)) ?_
   refine WM_do0 Z Z Z (D_store (vs := [_]) Z Tryz.sizeOf3 Z Z Z Z Z plY (by exact fm_room0 encI1 (show a + t1 < ((X ++ (A.take t ++ wv :: (A.drop t ++ Y))).set (a + t) z).length by rw [List.length_set]; omega) (j := 0) (by omega))) ?_
   rintro _ _ rfl
   refine ⟨⟨_, pqY⟩, ?_⟩
   rw [hsw2]
   refine WM_nil (WQ_code (WC_region (WLa Z (WLv Z (R_subR (r := ((a + t1 : Nat) : Int)) Z Z Z (by rw [wrap64_in (by omega) (by omega)] <;> omega)) ?_))))
   refine WLa Z (WL_nil ?_)
   refine WQ_nextF (t1) (⟨by omega, by omega⟩) (by omega) leZ (psZ) Z pqY
  ·have htq : t = y.i - a := by omega
   refine WC_exit (WQ_code (WC_ret ?_))
   rw [show X ++ (A.take t ++ wv :: (A.drop t ++ Y)) = X ++ ((A.take t ++ wv :: A.drop t) ++ Y) from by simp]
   refine WQ2 Z (by
     have hQ : ∀ z ∈ A.drop (y.i - a), lt wv z := fun z hz => by rw [hij] at hz; exact hhi z hz
     exact ⟨A.take t ++ wv :: A.drop t, rfl, (ins_perm A wv t).trans (List.perm_append_comm (l₁ := [wv])), by rw [htq]; exact ins_srtT ho pA hlo hQ, rfl⟩) pqY
end Go.Proofs.YtelmlkdibcdebaaGreat
