/-
 Chapter 49 (proxy), part PxV1: contracts of functions that the laws call, each for the heap it names.
-/
import Derived.Test.YtelmlkdibcdebaaGreatY04
import Derived.Test.YtelmlkdibcdebaaGreatRows
import Derived.Shelf.SlSortCmp.Whole1
import Derived.Shelf.SlSortCmp.NoneTotal
set_option linter.unusedVariables false
set_option maxRecDepth 20000
set_option maxHeartbeats 4000000
namespace Go.Proofs.YtelmlkdibcdebaaGreat
def PX.inX (x : PX) (n st : Int) (now : Nat) : Int :=
 if x.may (decide (0 ≤ n ∧ n ≤ 100)) now ≠ 0 then x.may (decide (0 ≤ n ∧ n ≤ 100)) now
 else match x.S.find? (fun s => decide (s.num = n)) with
  | none => 9
  | some s => if s.st = st then 0 else 9
def PX.dial1 (x : PX) (s : Ss) (good : Bool) (now i : Nat) (si : PS) : PX := { x with now := now, P := x.P.set i (si.dialed s.cn good now) }
def PX.dialN (x : PX) (s : Ss) (good : Bool) (now : Nat) : PX := match x.P[s.be.toNat]? with
 | none => x
 | some si =>
  if good = true then { (x.dial1 s good now s.be.toNat si).tell ⟨1, s.num, s.be, s.cn, 0⟩ with S := updS x.S s.num fun _ => { s with st := 4 } }
  else PX.fldF { (x.dial1 s good now s.be.toNat si).drain s.be.toNat with b := ((x.dial1 s good now s.be.toNat si).drain s.be.toNat).b.doneX now s.cal false } s
def PX.end1 (x : PX) (s : Ss) (good : Bool) (now i : Nat) (si : PS) : PX := { x with now := now, P := x.P.set i (si.put s.cn good now), b := x.b.doneX now s.cal good, S := x.S.filter fun y => decide (y.num ≠ s.num) }
def PX.endN (x : PX) (s : Ss) (good : Bool) (now : Nat) : PX := match x.P[s.be.toNat]? with
 | none => x
 | some si => (x.end1 s good now s.be.toNat si).drain s.be.toNat
theorem dialN_eq {x : PX} {s : Ss} {good : Bool} {now i : Nat} {si : PS} (hb : s.be = (i : Int)) (hi : x.P[i]? = some si) : x.dialN s good now = if good = true then { (x.dial1 s good now i si).tell ⟨1, s.num, s.be, s.cn, 0⟩ with S := updS x.S s.num fun _ => { s with st := 4 } }
  else PX.fldF { (x.dial1 s good now i si).drain i with b := ((x.dial1 s good now i si).drain i).b.doneX now s.cal false } s := by
 have e : s.be.toNat = i := by rw [hb]; exact Int.toNat_natCast i
 unfold PX.dialN
 rw [e, hi]
theorem endN_eq {x : PX} {s : Ss} {good : Bool} {now i : Nat} {si : PS} (hb : s.be = (i : Int)) (hi : x.P[i]? = some si) : x.endN s good now = (x.end1 s good now i si).drain i := by
 have e : s.be.toNat = i := by rw [hb]; exact Int.toNat_natCast i
 unfold PX.endN
 rw [e, hi]
theorem inX_zero {x : PX} {n st : Int} {now : Nat} (h : x.inX n st now = 0) : ∃ A s B, x.S = A ++ s :: B ∧ s.num = n ∧ s.st = st ∧ x.may (decide (0 ≤ n ∧ n ≤ 100)) now = 0 ∧ (0 ≤ n ∧ n ≤ 100) ∧ x.now ≤ now ∧ now ≠ 18446744073709551615 := by
 unfold PX.inX at h
 split at h
 ·rename_i h1; exact absurd h h1
 ·rename_i h1
  have h1 := Decidable.byContradiction h1
  split at h
  ·cases h
  ·rename_i s hf
   split at h
   ·rename_i h3
    obtain ⟨e1, e2, e3⟩ := xmay_zero_of h1
    obtain ⟨A, B, hS⟩ := List.append_of_mem (List.mem_of_find?_eq_some hf)
    exact ⟨A, s, B, hS, by simpa using List.find?_some hf, h3, h1, of_decide_eq_true e1, e2, e3⟩
   ·cases h
theorem PoIn.later {S : List Ss} {now now' i : Nat} {s : PS} (h : PoIn S now i s) (hn : now ≤ now') : PoIn S now' i s := ⟨h.ph, Nat.le_trans h.nw hn, h.nd, h.ks, h.wt, h.dl⟩
theorem PXG.at_ {x : PX} (h : PXG x) {now : Nat} (hn : x.now ≤ now) : PXG { x with now := now } := ⟨Nat.le_trans h.bl hn, h.nd, h.ks, h.bk, fun i si hi => (h.po i si hi).later hn⟩
theorem PXG.tell {x : PX} (h : PXG x) (v : Xv) : PXG (x.tell v) := ⟨h.bl, h.nd, h.ks, h.bk, h.po⟩
theorem PXG.pool {x : PX} (h : PXG x) {i : Nat} {si s' : PS} (hi : x.P[i]? = some si) (hp : PoIn x.S x.now i s') : PXG { x with P := x.P.set i s' } :=
 ⟨h.bl, h.nd, h.ks, by show ∀ s ∈ x.S, _ → ∃ j : Nat, _ ∧ j < (x.P.set i s').length; rw [List.length_set]; exact h.bk, po_set hi hp fun j sj _ hj => h.po j sj hj⟩
def NoDial (n : Int) (x : PX) : Prop := ∀ (i : Nat) (si : PS), x.P[i]? = some si → ∀ c ∈ si.C, c.st = 1 → c.who ≠ n
theorem PXG.noPend {x : PX} (h : PXG x) {s : Ss} (hs : s ∈ x.S) (hst : s.st ≠ 2) {i : Nat} {si : PS} (hi : x.P[i]? = some si) : s.num ∉ si.pend := fun e => by
 obtain ⟨y, hy, e1, e2, _⟩ := (h.po i si hi).wt _ e
 rw [uniq_num h.nd hy hs e1] at e2
 exact hst e2
theorem PXG.noDial {x : PX} (h : PXG x) {s : Ss} (hs : s ∈ x.S) (hst : s.st ≠ 2) (hst3 : s.st ≠ 3) : NoDial s.num x := fun i si hi c hc h1 hw => by
 obtain ⟨k, hk⟩ := List.mem_iff_getElem?.1 hc
 rcases (h.po i si hi).dl k c hk h1 with ⟨y, hy, e1, e2, _⟩ | e
 ·rw [uniq_num h.nd hy hs (e1.trans hw)] at e2
  exact hst3 e2
 ·exact h.noPend hs hst hi (by rw [← hw]; exact ev_pend e)
theorem PoIn.away {x : PX} (h : PXG x) {s : Ss} (hs : s ∈ x.S) (hst : s.st ≠ 2) (hd : NoDial s.num x) {S' : List Ss} (ho : OnlyAt s.num x.S S') {i : Nat} {si : PS} (hi : x.P[i]? = some si) : PoIn S' x.now i si :=
 (h.po i si hi).chg ho (h.noPend hs hst hi) fun c y hy h1 hw => absurd hw (hd i si hi y (List.mem_of_getElem? hy) h1)
theorem PXG.fldF {x : PX} (h : PXG x) {A B : List Ss} {s : Ss} (hS : x.S = A ++ s :: B) (hst : s.st ≠ 2) (hd : NoDial s.num x) (hpl : x.pl.tries ≤ 100) : PXG (x.fldF s) := by
 have hs : s ∈ x.S := by rw [hS]; exact List.mem_append_right _ (List.mem_cons_self ..)
 rw [fldF_eq hS h.nd]
 split
 ·rename_i hf
  refine h.swap hS rfl rfl ⟨(h.ks s hs).1, ?_⟩ (fun e => ?_) h.bl rfl fun i si hi => PoIn.away h hs hst hd (by rw [hS]; exact onlyAt_swap _) hi
  ·show s.tr + 1 ≤ 100
   unfold PX.failE at hf
   split at hf
   ·cases hf
   ·omega
  ·have e : (1 : Int) = 2 ∨ (1 : Int) = 3 ∨ (1 : Int) = 4 := e
   omega
 ·exact h.drop hS rfl h.bl rfl fun i si hi => PoIn.away h hs hst hd (by rw [hS]; exact onlyAt_drop) hi
theorem drain_P (i : Nat) : ∀ (n : Nat) (x : PX), (PX.drainL i n x).now = x.now ∧ (PX.drainL i n x).pl = x.pl ∧ (PX.drainL i n x).P.length = x.P.length ∧ (∀ (j : Nat) (sj : PS), (PX.drainL i n x).P[j]? = some sj → ∃ sj', x.P[j]? = some sj' ∧ sj = { sj' with E := sj.E })
 | 0, x => ⟨rfl, rfl, rfl, fun j sj h => ⟨sj, h, rfl⟩⟩
 | n + 1, x => by
  unfold PX.drainL
  split
  ·exact ⟨rfl, rfl, rfl, fun j sj h => ⟨sj, h, rfl⟩⟩
  ·rename_i si hi
   split
   ·exact ⟨rfl, rfl, rfl, fun j sj h => ⟨sj, h, rfl⟩⟩
   ·rename_i e r hE
    obtain ⟨a, b, c, d⟩ := drain_P i n ((x.nxP i si).drE i e)
    obtain ⟨p1, p2, p3⟩ := drE_P i (x.nxP i si) e
    refine ⟨a.trans p2, b.trans p3, by rw [c, p1]; exact List.length_set .., fun j sj hj => ?_⟩
    obtain ⟨sj', h1, h2⟩ := d j sj hj
    rw [p1] at h1
    have h1 : (x.P.set i si.nx)[j]? = some sj' := h1
    by_cases e : i = j
    ·subst e
     rw [List.getElem?_set_self (List.getElem?_eq_some_iff.1 hi).1] at h1
     refine ⟨si, hi, ?_⟩
     rw [h2, ← Option.some.inj h1]; rfl
    ·rw [List.getElem?_set_ne e] at h1
     exact ⟨sj', h1, h2⟩
theorem drain_eqL (x : PX) (i : Nat) : ∃ n, x.drain i = PX.drainL i n x := by
 unfold PX.drain
 split
 ·exact ⟨0, rfl⟩
 ·exact ⟨_, rfl⟩
theorem drain_now (x : PX) (i : Nat) : (x.drain i).now = x.now := by obtain ⟨n, e⟩ := drain_eqL x i; rw [e]; exact (drain_P i n x).1
theorem drain_pl (x : PX) (i : Nat) : (x.drain i).pl = x.pl := by obtain ⟨n, e⟩ := drain_eqL x i; rw [e]; exact (drain_P i n x).2.1
theorem drain_len (x : PX) (i : Nat) : (x.drain i).P.length = x.P.length := by obtain ⟨n, e⟩ := drain_eqL x i; rw [e]; exact (drain_P i n x).2.2.1
theorem drain_at {x : PX} {i j : Nat} {sj : PS} (h : (x.drain i).P[j]? = some sj) : ∃ sj', x.P[j]? = some sj' ∧ sj = { sj' with E := sj.E } := by obtain ⟨n, e⟩ := drain_eqL x i; rw [e] at h; exact (drain_P i n x).2.2.2 j sj h
theorem NoDial.drain {n : Int} {x : PX} (h : NoDial n x) (i : Nat) : NoDial n (x.drain i) := fun j sj hj c hc => by
 obtain ⟨sj', h1, h2⟩ := drain_at hj
 exact h j sj' h1 c (by rw [h2] at hc; exact hc)
theorem drainL_ok (i : Nat) : ∀ (n : Nat) (x : PX), PXG x → PXG (PX.drainL i n x) ∧ (∀ s ∈ x.S, s.st ≠ 2 → s ∈ (PX.drainL i n x).S)
 | 0, x, h => ⟨h, fun s hs _ => hs⟩
 | n + 1, x, h => by
  unfold PX.drainL
  split
  ·exact ⟨h, fun s hs _ => hs⟩
  ·rename_i si hi
   split
   ·exact ⟨h, fun s hs _ => hs⟩
   ·rename_i e r hE
    obtain ⟨hk, g2⟩ := drE_ok h hi hE
    obtain ⟨a, b⟩ := drainL_ok i n _ g2
    refine ⟨a, fun s hs hst => b s ?_ hst⟩
    rcases hk with hk | ⟨hk, A, s9, B, hS, hw, hst9, _⟩
    ·rw [drE_5 hk]; exact hs
    ·have hne : s.num ≠ s9.num := fun e9 => hst (by rw [uniq_num h.nd hs (by rw [hS]; exact List.mem_append_right _ (List.mem_cons_self ..)) e9]; exact hst9)
     have hs' := hs
     rw [hS] at hs'
     rcases hk with hk | hk | hk
     ·rw [drE_1 (x := x.nxP i si) h.nd hS hw.symm hk]
      exact onlyAt_swap _ s hs' hne
     ·rw [drE_2 (x := x.nxP i si) h.nd hS hw.symm hk]
      exact onlyAt_swap _ s hs' hne
     ·rw [drE_4 (x := x.nxP i si) h.nd hS hw.symm hk]
      exact onlyAt_drop s hs' hne
theorem PXG.drain {x : PX} (h : PXG x) (i : Nat) : PXG (x.drain i) := by obtain ⟨n, e⟩ := drain_eqL x i; rw [e]; exact (drainL_ok i n x h).1
theorem drain_keep {x : PX} (h : PXG x) (i : Nat) {s : Ss} (hs : s ∈ x.S) (hst : s.st ≠ 2) : s ∈ (x.drain i).S := by obtain ⟨n, e⟩ := drain_eqL x i; rw [e]; exact (drainL_ok i n x h).2 s hs hst
theorem ph_dialed {s : PS} (h : PH s) (c : Int) (made : Bool) {now : Nat} (hn : s.now ≤ now) : PH (s.dialed c made now) ∧ (s.dialed c made now).now ≤ now := by
 by_cases he : s.inE c 1 now = 0
 ·obtain ⟨k, _, _, _, r⟩ := dialed_R h he made
  exact ⟨r.ph, by rw [r.now]; exact Nat.le_refl _⟩
 ·rw [dialed_no he]; exact ⟨h, hn⟩
theorem ph_put {s : PS} (h : PH s) (c : Int) (good : Bool) {now : Nat} (hn : s.now ≤ now) : PH (s.put c good now) ∧ (s.put c good now).now ≤ now := by
 by_cases he : s.inE c 2 now = 0
 ·obtain ⟨k, _, _, _, r⟩ := put_R h he good
  exact ⟨r.ph, by rw [r.now]; exact Nat.le_refl _⟩
 ·rw [put_no he]; exact ⟨h, hn⟩
theorem ph_adv {s : PS} (h : PH s) {now : Nat} (hn : s.now ≤ now) : PH (s.advance now) ∧ (s.advance now).now ≤ now := by
 by_cases he : s.may true now = 0
 ·have r := adv_R h he
  exact ⟨r.ph, by rw [r.now]; exact Nat.le_refl _⟩
 ·rw [adv_no he]; exact ⟨h, hn⟩
theorem pend_who {S : List Ss} {now i : Nat} {s : PS} (h : PoIn S now i s) : (s.Q.map (·.who)).Nodup := by
 have := h.nd
 unfold PS.pend at this
 exact (List.nodup_append.1 this).2.1
theorem PXG.dial1 {x : PX} (h : PXG x) (s : Ss) (good : Bool) {now i : Nat} {si : PS} (hi : x.P[i]? = some si) (hn : x.now ≤ now) : PXG (x.dial1 s good now i si) := by
 have hp := (h.po i si hi).later hn
 obtain ⟨a, b⟩ := ph_dialed hp.ph s.cn good hp.nw
 exact (h.at_ hn).pool (x := { x with now := now }) hi (hp.op (opd_dialed si s.cn good now) a b)
theorem px_perm5 {a b c d e : Ent} {SS S2 R : Heap} (h : SS.Perm (e :: S2)) : ([a, b, c, d] ++ (SS ++ R)).Perm ([a, b, e] ++ ([c, d] ++ (S2 ++ R))) := by
 refine List.Perm.cons a (List.Perm.cons b ?_)
 exact ((h.append_right R).append_left [c, d]).trans (List.perm_middle (l₁ := [c, d]) (a := e) (l₂ := S2 ++ R))
theorem xin_err {N : Nat} {m : XM} {x : PX} (h : PXIs N m x) (n st : Int) (now : Nat) (he : x.inX n st now ≠ 0) : Spec Tryz.prog 34 [ptrP m.p, .int .i64 n, .int .i64 st, .int .u64 (now : Int)] (pxH m x) (fun r H' => r = .tuple #[.pointer none, .int .i64 (x.inX n st now)] ∧ H' = pxH m x) := by
 by_cases hm : x.may (decide (0 ≤ n ∧ n ≤ 100)) now = 0
 ·by_cases hin : n ∈ x.S.map (·.num)
  ·obtain ⟨s, hs, rfl⟩ := List.mem_map.1 hin
   have hnd : (x.S.map (·.num)).Nodup := by rw [← sesM_keys]; exact h.mp.nodup
   have hX : x.inX s.num st now = if s.st = st then 0 else 9 := by unfold PX.inX; rw [if_neg (by rw [hm]; decide), find_num hnd hs]
   have hst : s.st ≠ st := fun e => he (by rw [hX, if_pos e])
   obtain ⟨A, B, hS⟩ := List.append_of_mem hs
   have hperm : (ssH x.S).Perm (seE s :: ssH (A ++ B)) := by rw [hS]; exact ssH_split A B s
   rw [hX, if_neg hst]
   refine Spec.re ((((xin_not m x h.mp s (List.mem_map_of_mem (f := fun s : Ss => (s.num, s.p)) hs) st now hm hst).fr _).perm (px_perm5 hperm)).mono ?_)
   rintro r H' ⟨H1, ⟨hr, rfl⟩, rfl⟩
   exact ⟨pxH m x, (px_perm5 hperm).symm, hr, rfl⟩
  ·have hX : x.inX n st now = 9 := by
    have : x.S.find? (fun s => decide (s.num = n)) = none := List.find?_eq_none.2 fun s hs => by
     simp only [decide_eq_true_eq]
     exact fun e => hin (by rw [← e]; exact List.mem_map_of_mem hs)
    unfold PX.inX; rw [if_neg (by rw [hm]; decide), this]
   rw [hX]
   refine ((xin_out m x h.mp n st now hm (by rw [sesM_keys]; exact hin)).fr ([pxV m x, pxQ m] ++ (ssH x.S ++ (balH m.bm ++ poolsH m.pm x.P)))).mono ?_
   rintro r H' ⟨H1, ⟨hr, rfl⟩, rfl⟩
   exact ⟨hr, rfl⟩
 ·have hX : x.inX n st now = x.may (decide (0 ≤ n ∧ n ≤ 100)) now := by unfold PX.inX; rw [if_pos hm]
  rw [hX]
  refine ((xin_bad m x n st now hm).fr ([pxM m, pxV m x, pxQ m] ++ (ssH x.S ++ (balH m.bm ++ poolsH m.pm x.P)))).mono ?_
  rintro r H' ⟨H1, ⟨hr, rfl⟩, rfl⟩
  exact ⟨hr, rfl⟩
theorem xin_all {N : Nat} {m : XM} {x : PX} (h : PXIs N m x) (hE : x.E.length ≤ 10000) {A B : List Ss} {s : Ss} (hS : x.S = A ++ s :: B) {st : Int} (hst : s.st = st) {now : Nat} (hm : x.may (decide (0 ≤ s.num ∧ s.num ≤ 100)) now = 0) : Spec Tryz.prog 34 [ptrP m.p, .int .i64 s.num, .int .i64 st, .int .u64 (now : Int)] (pxH m x) (fun r H' => r = .tuple #[ptrS s.p, .int .i64 0] ∧ H' = pxH m x) := by
 have hperm : (ssH x.S).Perm (seE s :: ssH (A ++ B)) := by rw [hS]; exact ssH_split A B s
 have hin : (s.num, s.p) ∈ sesM x.S := by rw [hS]; exact List.mem_map_of_mem (f := fun s : Ss => (s.num, s.p)) (List.mem_append_right _ (List.mem_cons_self ..))
 refine Spec.re ((((xin_ok m x hE h.mp s hin st now hm hst).fr _).perm (px_perm5 hperm)).mono ?_)
 rintro r H' ⟨H1, ⟨hr, rfl⟩, rfl⟩
 exact ⟨pxH m x, (px_perm5 hperm).symm, hr, rfl⟩
theorem pm_ent {m : XM} {x : PX} {i : Nat} {mi m1 : PM} {s' : PS} (hmi : m.pm[i]? = some mi) (hp : m1.p = mi.p) (now : Nat) : ([pxE m { x with now := now }, pxQ m] : Heap).Perm [pxE { m with pm := m.pm.set i m1 } { x with now := now, P := x.P.set i s' }, pxQ { m with pm := m.pm.set i m1 }] := by
 simp only [pxE, pxC, pxQ, List.length_set, pms_set hmi hp]
 exact List.Perm.refl _
theorem pm_entB {m : XM} {x : PX} {i : Nat} {mi m1 : PM} {s' : PS} {b1 : Bm} (hmi : m.pm[i]? = some mi) (hp : m1.p = mi.p) (hb : b1.p = m.bm.p) (now : Nat) (b : BS) (S : List Ss) : ([pxE m { x with now := now }, pxQ m] : Heap).Perm [pxE { m with pm := m.pm.set i m1, bm := b1 } { x with now := now, P := x.P.set i s', b := b, S := S }, pxQ { m with pm := m.pm.set i m1, bm := b1 }] := by
 simp only [pxE, pxC, pxQ, List.length_set, pms_set hmi hp, hb]
 exact List.Perm.refl _
theorem drE_Elen (i : Nat) : ∀ (n : Nat) (x : PX), (PX.drainL i n x).E.length ≤ x.E.length + n
 | 0, x => Nat.le_refl _
 | n + 1, x => by
  unfold PX.drainL
  split
  ·omega
  ·rename_i si hi
   split
   ·omega
   ·rename_i e r hE
    have a := drE_Elen i n ((x.nxP i si).drE i e)
    have b : ((x.nxP i si).drE i e).E.length ≤ x.E.length + 1 := drE_E i (x.nxP i si) e
    omega
theorem drain_E {x : PX} {i : Nat} {si : PS} (hi : x.P[i]? = some si) : (x.drain i).E.length ≤ x.E.length + si.E.length := by
 unfold PX.drain; rw [hi]; exact drE_Elen i _ x
theorem PXG.end1 {x : PX} (h : PXG x) {A B : List Ss} {s : Ss} (hS : x.S = A ++ s :: B) (hst : s.st = 4) (good : Bool) {now i : Nat} {si : PS} (hi : x.P[i]? = some si) (hn : x.now ≤ now) : PXG { x with now := now, P := x.P.set i (si.put s.cn good now), b := x.b.doneX now s.cal good, S := A ++ B } := by
 have hp := (h.po i si hi).later hn
 obtain ⟨a, b⟩ := ph_put hp.ph s.cn good hp.nw
 have g2 := (h.at_ hn).pool (x := { x with now := now }) hi (hp.op (opd_put si s.cn good now) a b)
 have hs : s ∈ x.S := by rw [hS]; exact List.mem_append_right _ (List.mem_cons_self ..)
 exact g2.drop hS rfl (doneX_last _ _ _ _ g2.bl) rfl fun j sj hj => PoIn.away g2 hs (by rw [hst]; decide) (g2.noDial hs (by rw [hst]; decide) (by rw [hst]; decide)) (by rw [show PX.S _ = x.S from rfl, hS]; exact onlyAt_drop) hj
theorem PXIs.end1 {N : Nat} {m : XM} {x : PX} (h : PXIs N m x) {A B : List Ss} {s : Ss} (hS : x.S = A ++ s :: B) (hnd : (x.S.map (·.num)).Nodup) {i : Nat} {mi m1 : PM} {s' : PS} (hmi : m.pm[i]? = some mi) (hp : m1.p = mi.p) (hi : PIs m1 s') {now : Nat} (hb : now ≤ 18446744073709551614) {bm1 : Bm} {n : Int} {good : Bool} (hI : BIs (N + 1) bm1 (x.b.doneX now n good)) {es : Array MapEntry} (hM : Mk ekW ptrS es m.smc (delL (sesM x.S) s.num)) :
  PXIs (N + 1) { m with pm := m.pm.set i m1, bm := bm1, ses := es } { x with now := now, P := x.P.set i s', b := x.b.doneX now n good, S := A ++ B } := by
 have q := ((h.at_ hb).pool (x := { x with now := now }) hmi hp hi).done hI
 rw [ses_del hS hnd] at hM
 exact ⟨q.bal, q.len, q.po, q.oq, hM, q.eO, q.ok, q.seed, fun y hy => h.num y (by
  rw [hS]
  rcases List.mem_append.1 hy with hy | hy
  ·exact List.mem_append_left _ hy
  ·exact List.mem_append_right _ (List.mem_cons_of_mem _ hy)), q.vl, q.now⟩
theorem xdialed_err {N : Nat} {m : XM} {x : PX} (h : PXIs N m x) (n : Int) (made : Bool) (now : Nat) (he : x.inX n 3 now ≠ 0) : Spec Tryz.prog 13 [ptrP m.p, .int .i64 n, .bool made, .int .u64 (now : Int)] (pxH m x) (fun r H' => r = .int .i64 (x.inX n 3 now) ∧ H' = pxH m x) := by
 refine Spec.of (E := [(0, ptrP m.p), (1, .int .i64 n), (2, .bool made), (3, .int .u64 (now : Int))]) Tryz.func13 rfl (by kernel_rfl) Tryz.ntmps13 rfl rfl (fun w => ?_)
 refine WCr (WLa Z (WL_nil (WQ_code (WCr (WLa Z (WLa Z (WLa Z (WLc Z (xin_err h n 3 now he) Z pqD ?_))))))))
 rintro _ _ ⟨_, ⟨rfl, rfl⟩, rfl⟩
 refine WLa Z (WLa Z (WLa Z (WLa Z (WLa Z (WL_nil (WQ_code (WC_seq (WCr (WLa Z (WLa Z (WL_nil (WQ_code (WC_dT Z (by exact he) ?_)))))))))))))
 refine WCr (WLa Z (WLa Z (WL_nil (WQ_code (WC_ret ?_)))))
 refine WQ1 Z (by
   exact ⟨rfl, rfl⟩) pqD
theorem xend_err {N : Nat} {m : XM} {x : PX} (h : PXIs N m x) (n : Int) (made : Bool) (now : Nat) (he : x.inX n 4 now ≠ 0) : Spec Tryz.prog 14 [ptrP m.p, .int .i64 n, .bool made, .int .u64 (now : Int)] (pxH m x) (fun r H' => r = .int .i64 (x.inX n 4 now) ∧ H' = pxH m x) := by
 refine Spec.of (E := [(0, ptrP m.p), (1, .int .i64 n), (2, .bool made), (3, .int .u64 (now : Int))]) Tryz.func14 rfl (by kernel_rfl) Tryz.ntmps14 rfl rfl (fun w => ?_)
 refine WCr (WLa Z (WL_nil (WQ_code (WCr (WLa Z (WLa Z (WLa Z (WLc Z (xin_err h n 4 now he) Z pqD ?_))))))))
 rintro _ _ ⟨_, ⟨rfl, rfl⟩, rfl⟩
 refine WLa Z (WLa Z (WLa Z (WLa Z (WLa Z (WL_nil (WQ_code (WC_seq (WCr (WLa Z (WLa Z (WL_nil (WQ_code (WC_dT Z (by exact he) ?_)))))))))))))
 refine WCr (WLa Z (WLa Z (WL_nil (WQ_code (WC_ret ?_)))))
 refine WQ1 Z (by
   exact ⟨rfl, rfl⟩) pqD
theorem xdialed_made {N : Nat} {m : XM} {x : PX} (h : PXIs N m x) (hg : PXG x) (hN : N ≤ 8000) (hE : x.E.length ≤ 10000) {A B : List Ss} {s : Ss} (hS : x.S = A ++ s :: B) (hst : s.st = 3) {now : Nat} (hb : now ≤ 18446744073709551615) (hm : x.may (decide (0 ≤ s.num ∧ s.num ≤ 100)) now = 0) {i : Nat} {si : PS} (hbe : s.be = (i : Int)) (hi : x.P[i]? = some si) (hiE : si.E.length ≤ 10000) :
  Spec Tryz.prog 13 [ptrP m.p, .int .i64 s.num, .bool true, .int .u64 (now : Int)] (pxH m x) (fun r H' => ∃ m', r = .int .i64 0 ∧ H' = pxH m' (x.dialN s true now) ∧ PXIs N m' (x.dialN s true now) ∧ m'.p = m.p) := by
 have hs : s ∈ x.S := by rw [hS]; exact List.mem_append_right _ (List.mem_cons_self ..)
 have hnd := hg.nd
 obtain ⟨mi, hmi⟩ := pool_at h hi
 have hil := (List.getElem?_eq_some_iff.1 hi).1
 have hpl := h.oq.len
 obtain ⟨wq, hwq⟩ := h.oq.some_of (by omega)
 obtain ⟨hr9, hn1, hn2⟩ := xmay_zero_of hm
 have ht := (hg.ks s hs).2
 have hbl := hg.bl
 have hX : x.dialN s true now = { (x.dial1 s true now i si).tell ⟨1, s.num, s.be, s.cn, 0⟩ with S := A ++ { s with st := 4, cn := s.cn } :: B } := by
  rw [dialN_eq hbe hi, if_pos rfl, updS_at hS hnd]
 refine Spec.of (E := [(0, ptrP m.p), (1, .int .i64 s.num), (2, .bool true), (3, .int .u64 (now : Int))]) Tryz.func13 rfl (by kernel_rfl) Tryz.ntmps13 rfl rfl (fun w => ?_)
 refine WCr (WLa Z (WL_nil (WQ_code (WCr (WLa Z (WLa Z (WLa Z (WLc Z (xin_all h hE hS hst hm) Z pqD ?_))))))))
 rintro _ _ ⟨_, ⟨rfl, rfl⟩, rfl⟩
 refine WLa Z (WLa Z (WLa Z (WLa Z (WLa Z (WL_nil (WQ_code (WC_seq (WCr (WLa Z (WLa Z (WL_nil (WQ_code (WC_dF Z (by exact fun e => e rfl) ?_)))))))))))))
 refine WC_skip (WQ_code (WCr (WLa Z ?_)))
 have hpm9 : (ssH x.S).Perm (seE s :: ssH (A ++ B)) := by rw [hS]; exact ssH_split A B s
 refine WL_shape (A := ssH x.S) pqD hpm9 ?_
 refine WLa Z (WLa Z (WLf Z fa68_3 (WLs (vs := [_]) Z Tryz.sizeOf25 Z Z plD (nb Z) ?_)))
 refine WL_nil (WQ_code (WC_seq (WC_draw _ [(0, true), (1, true), (2, true), (3, true), (4, true), (5, true), (6, true), (7, true), (8, true), (9, true)] followsMixed Z Z (by kernel_rfl) .all ?_)))
 refine WMa Z (WMa Z (WMf Z fa90_7 (WMl Z sc3 mmD Z (WMa Z (WMa Z (WMf Z fa90_6 (WMl Z sc3 mmD Z (WMa Z (WMa Z (WM_nil (WQ_code (WC_seq (WC_drawR (poolsH m.pm x.P) [(0, true), (1, true), (2, true), (3, true), (4, true), (5, true), (6, true), (7, true), (8, true), (9, true), (10, true), (11, true), (12, true), (13, false)] followsMixed Z Z (by kernel_rfl) pqD ?_)))))))))))))
 refine WMa Z (WMa Z (WMf Z fa68_1 (WMl Z sc56 mmD Z (WMa Z (WM_set (s := 39) (v := .int .i64 (i : Int)) Z (by rw [hbe]) ?_)))))
 refine WMv Z (R_idxO hwq Z Tryz.underlying56 Tryz.sizeOf79 Z Z (by omega)) ?_
 refine WMv Z (R_loadO (v := ptrP mi.p) hwq Z sc79 Z mmD (fm_get0 encPq1 hmi (j := 0) (by omega))) ?_
 refine WMa Z (WMa Z (WMf Z fa90_8 (WMl Z sc3 mmD Z (WMa Z (WMa Z (WMd Z (D_call (xp_dialed hmi hi (h.po i mi si hmi hi) hiE s.cn true now (by omega)) Z Z Z Z pqD) ?_))))))
 rintro _ _ ⟨_, ⟨m1, rfl, rfl, hp1, h1⟩, rfl⟩
 refine ⟨⟨_, pqD⟩, ?_⟩
 refine WM_nil (WQ_code (WC_seq (WCr (WLa Z (WL_shape (A := [pxE m { x with now := now }, pxQ m]) pqD (pm_ent (s' := si.dialed s.cn true now) hmi hp1 now) ?_)))))
 have h1x : PXIs N { m with pm := m.pm.set i m1 } (x.dial1 s true now i si) := (h.at_ (by omega)).pool (x := { x with now := now }) hmi hp1 h1
 refine WL_nil (WQ_code (WC_T Z (WCr (WLa Z (WLa Z (WLa Z (WLa Z (WLf Z fa90_8 (WLl Z sc3 mmD Z (WL_shape (A := seE s :: ssH (A ++ B)) pqD hpm9.symm ?_))))))))))
 refine WLc Z (xact_all h1x (by show x.E.length ≤ _; omega) hS s.cn) Z pqD ?_
 rintro _ _ ⟨_, ⟨m2, rfl, rfl, h2, hp2, _, _, _, _, _⟩, rfl⟩
 refine WL_nil (WQ_code (WCr (WLa Z (WL_nil (WQ_code (WC_ret ?_))))))
 refine WQ1 Z (by
   rw [hX]
   exact ⟨m2, rfl, rfl, h2, hp2⟩) pqD
theorem xdialed_lost {N : Nat} {m : XM} {x : PX} (h : PXIs N m x) (hg : PXG x) (hN : N ≤ 8000) (hE : x.E.length ≤ 10000) {A B : List Ss} {s : Ss} (hS : x.S = A ++ s :: B) (hst : s.st = 3) {now : Nat} (hb : now ≤ 18446744073709551615) (hm : x.may (decide (0 ≤ s.num ∧ s.num ≤ 100)) now = 0) {i : Nat} {si : PS} (hbe : s.be = (i : Int)) (hi : x.P[i]? = some si) (hiE : si.E.length ≤ 10000) (hdE : (si.dialed s.cn false now).E.length ≤ 20) :
  Spec Tryz.prog 13 [ptrP m.p, .int .i64 s.num, .bool false, .int .u64 (now : Int)] (pxH m x) (fun r H' => ∃ m', r = .int .i64 0 ∧ H' = pxH m' (x.dialN s false now) ∧ PXIs (N + 21) m' (x.dialN s false now) ∧ m'.p = m.p) := by
 have hs : s ∈ x.S := by rw [hS]; exact List.mem_append_right _ (List.mem_cons_self ..)
 have hnd := hg.nd
 obtain ⟨mi, hmi⟩ := pool_at h hi
 have hil := (List.getElem?_eq_some_iff.1 hi).1
 have hpl := h.oq.len
 obtain ⟨wq, hwq⟩ := h.oq.some_of (by omega)
 obtain ⟨hr9, hn1, hn2⟩ := xmay_zero_of hm
 have ht := (hg.ks s hs).2
 have hbl := hg.bl
 have g1 := hg.dial1 s false hi hn1
 have hi1 : (x.dial1 s false now i si).P[i]? = some (si.dialed s.cn false now) := List.getElem?_set_self hil
 have hX : x.dialN s false now = PX.fldF { (x.dial1 s false now i si).drain i with b := ((x.dial1 s false now i si).drain i).b.doneX ((x.dial1 s false now i si).drain i).now s.cal false } s := by
  rw [dialN_eq hbe hi, if_neg (by decide), drain_now]; rfl
 have hs3 : s ∈ ((x.dial1 s false now i si).drain i).S := drain_keep g1 i hs (by rw [hst]; decide)
 obtain ⟨A3, B3, hS3⟩ := List.append_of_mem hs3
 have hE3 : ((x.dial1 s false now i si).drain i).E.length ≤ x.E.length + (si.dialed s.cn false now).E.length := drain_E hi1
 refine Spec.of (E := [(0, ptrP m.p), (1, .int .i64 s.num), (2, .bool false), (3, .int .u64 (now : Int))]) Tryz.func13 rfl (by kernel_rfl) Tryz.ntmps13 rfl rfl (fun w => ?_)
 refine WCr (WLa Z (WL_nil (WQ_code (WCr (WLa Z (WLa Z (WLa Z (WLc Z (xin_all h hE hS hst hm) Z pqD ?_))))))))
 rintro _ _ ⟨_, ⟨rfl, rfl⟩, rfl⟩
 refine WLa Z (WLa Z (WLa Z (WLa Z (WLa Z (WL_nil (WQ_code (WC_seq (WCr (WLa Z (WLa Z (WL_nil (WQ_code (WC_dF Z (by exact fun e => e rfl) ?_)))))))))))))
 refine WC_skip (WQ_code (WCr (WLa Z ?_)))
 have hpm9 : (ssH x.S).Perm (seE s :: ssH (A ++ B)) := by rw [hS]; exact ssH_split A B s
 refine WL_shape (A := ssH x.S) pqD hpm9 ?_
 refine WLa Z (WLa Z (WLf Z fa68_3 (WLs (vs := [_]) Z Tryz.sizeOf25 Z Z plD (nb Z) ?_)))
 refine WL_nil (WQ_code (WC_seq (WC_draw _ [(0, true), (1, true), (2, true), (3, true), (4, true), (5, true), (6, true), (7, true), (8, true), (9, true)] followsMixed Z Z (by kernel_rfl) .all ?_)))
 refine WMa Z (WMa Z (WMf Z fa90_7 (WMl Z sc3 mmD Z (WMa Z (WMa Z (WMf Z fa90_6 (WMl Z sc3 mmD Z (WMa Z (WMa Z (WM_nil (WQ_code (WC_seq (WC_drawR (poolsH m.pm x.P) [(0, true), (1, true), (2, true), (3, true), (4, true), (5, true), (6, true), (7, true), (8, true), (9, true), (10, true), (11, true), (12, true), (13, false)] followsMixed Z Z (by kernel_rfl) pqD ?_)))))))))))))
 refine WMa Z (WMa Z (WMf Z fa68_1 (WMl Z sc56 mmD Z (WMa Z (WM_set (s := 39) (v := .int .i64 (i : Int)) Z (by rw [hbe]) ?_)))))
 refine WMv Z (R_idxO hwq Z Tryz.underlying56 Tryz.sizeOf79 Z Z (by omega)) ?_
 refine WMv Z (R_loadO (v := ptrP mi.p) hwq Z sc79 Z mmD (fm_get0 encPq1 hmi (j := 0) (by omega))) ?_
 refine WMa Z (WMa Z (WMf Z fa90_8 (WMl Z sc3 mmD Z (WMa Z (WMa Z (WMd Z (D_call (xp_dialed hmi hi (h.po i mi si hmi hi) hiE s.cn false now (by omega)) Z Z Z Z pqD) ?_))))))
 rintro _ _ ⟨_, ⟨m1, rfl, rfl, hp1, h1⟩, rfl⟩
 refine ⟨⟨_, pqD⟩, ?_⟩
 refine WM_nil (WQ_code (WC_seq (WCr (WLa Z (WL_shape (A := [pxE m { x with now := now }, pxQ m]) pqD (pm_ent (s' := si.dialed s.cn false now) hmi hp1 now) ?_)))))
 have h1x : PXIs N { m with pm := m.pm.set i m1 } (x.dial1 s false now i si) := (h.at_ (by omega)).pool (x := { x with now := now }) hmi hp1 h1
 refine WL_nil (WQ_code (WC_F Z (WC_skip (WQ_code (WCr (WLa Z (WLa Z (WL_set (s := 58) (v := .int .i64 (i : Int)) Z (by rw [hbe]) ?_))))))))
 refine WL_shape (A := seE s :: ssH (A ++ B)) pqD hpm9.symm ?_
 refine WLc Z (xdrain_ok h1x g1 hi1 (by omega) (by show x.E.length + _ ≤ _; omega)) Z pqD ?_
 rintro _ _ ⟨_, ⟨m2, N2, rfl, rfl, hN2, h2, kp2, g2⟩, rfl⟩
 refine WL_nil (WQ_code (WCr (WLa Z (WL_set (s := 60) (v := ptrP m2.p) Z (by rw [kp2.p]) ?_))))
 refine WLa Z (WLf Z fa68_0 (WLl Z sc55 mmD Z (WLa Z (WL_set (s := 64) (v := .int .u64 (((x.dial1 s false now i si).drain i).now : Int)) Z (by rw [drain_now]; rfl) ?_))))
 refine WLa Z (WLc Z (xd_all h2 (by omega) g2.bl s.cal false) Z pqD ?_)
 rintro _ _ ⟨_, ⟨m3, e3, rfl, rfl, h3, kp3, _⟩, rfl⟩
 refine WL_nil (WQ_code (WCr (WLa Z (WL_set (s := 67) (v := ptrP m3.p) Z (by rw [kp3.p, kp2.p]) ?_))))
 refine WLa Z (WLc Z (xfailed_all h3 (by show ((x.dial1 s false now i si).drain i).E.length ≤ _; omega) g2.nd hS3 (by omega)) Z pqD ?_)
 rintro _ _ ⟨_, ⟨m4, rfl, rfl, h4, hp4⟩, rfl⟩
 refine WL_nil (WQ_code (WCr (WLa Z (WL_nil (WQ_code (WC_ret ?_))))))
 refine WQ1 Z (by
   rw [hX]
   exact ⟨m4, rfl, rfl, h4.le (by omega), by rw [hp4, kp3.p, kp2.p]⟩) pqD
theorem xend_ok {N : Nat} {m : XM} {x : PX} (h : PXIs N m x) (hg : PXG x) (hN : N ≤ 8000) (hE : x.E.length ≤ 10000) {A B : List Ss} {s : Ss} (hS : x.S = A ++ s :: B) (hst : s.st = 4) (good : Bool) {now : Nat} (hb : now ≤ 18446744073709551615) (hm : x.may (decide (0 ≤ s.num ∧ s.num ≤ 100)) now = 0) {i : Nat} {si : PS} (hbe : s.be = (i : Int)) (hi : x.P[i]? = some si) (hiE : si.E.length ≤ 10000) (hdE : (si.put s.cn good now).E.length ≤ 20) :
  Spec Tryz.prog 14 [ptrP m.p, .int .i64 s.num, .bool good, .int .u64 (now : Int)] (pxH m x) (fun r H' => ∃ m', r = .int .i64 0 ∧ H' = pxH m' (x.endN s good now) ∧ PXIs (N + 21) m' (x.endN s good now) ∧ m'.p = m.p) := by
 have hs : s ∈ x.S := by rw [hS]; exact List.mem_append_right _ (List.mem_cons_self ..)
 have hnd := hg.nd
 obtain ⟨mi, hmi⟩ := pool_at h hi
 have hil := (List.getElem?_eq_some_iff.1 hi).1
 have hpl := h.oq.len
 obtain ⟨wq, hwq⟩ := h.oq.some_of (by omega)
 obtain ⟨hr9, hn1, hn2⟩ := xmay_zero_of hm
 have ht := (hg.ks s hs).2
 have hbl := hg.bl
 have hin : (s.num, s.p) ∈ sesM x.S := List.mem_map_of_mem (f := fun s : Ss => (s.num, s.p)) hs
 have g1 := hg.end1 hS hst good hi hn1
 have hi1 : (x.P.set i (si.put s.cn good now))[i]? = some (si.put s.cn good now) := List.getElem?_set_self hil
 have hX : x.endN s good now = PX.drain { x with now := now, P := x.P.set i (si.put s.cn good now), b := x.b.doneX now s.cal good, S := A ++ B } i := by
  rw [endN_eq hbe hi]; unfold PX.end1; rw [filt_num hS hnd]
 refine Spec.of (E := [(0, ptrP m.p), (1, .int .i64 s.num), (2, .bool good), (3, .int .u64 (now : Int))]) Tryz.func14 rfl (by kernel_rfl) Tryz.ntmps14 rfl rfl (fun w => ?_)
 refine WCr (WLa Z (WL_nil (WQ_code (WCr (WLa Z (WLa Z (WLa Z (WLc Z (xin_all h hE hS hst hm) Z pqD ?_))))))))
 rintro _ _ ⟨_, ⟨rfl, rfl⟩, rfl⟩
 refine WLa Z (WLa Z (WLa Z (WLa Z (WLa Z (WL_nil (WQ_code (WC_seq (WCr (WLa Z (WLa Z (WL_nil (WQ_code (WC_dF Z (by exact fun e => e rfl) ?_)))))))))))))
 refine WC_skip (WQ_code (WCr (WLa Z ?_)))
 have hpm9 : (ssH x.S).Perm (seE s :: ssH (A ++ B)) := by rw [hS]; exact ssH_split A B s
 refine WL_shape (A := ssH x.S) pqD hpm9 ?_
 refine WLa Z (WLa Z (WLf Z fa68_3 (WLs (vs := [_]) Z Tryz.sizeOf25 Z Z plD (nb Z) ?_)))
 refine WL_nil (WQ_code (WC_seq (WC_drawR (poolsH m.pm x.P) [(0, true), (1, true), (2, true), (3, true), (4, true), (5, true), (6, true), (7, true), (8, true), (9, true), (10, true), (11, true), (12, true), (13, true), (14, true), (15, true), (16, false)] followsMixed Z Z (by kernel_rfl) pqD ?_)))
 refine WMa Z (WMa Z (WMf Z fa68_1 (WMl Z sc56 mmD Z (WMa Z (WMa Z (WMf Z fa90_7 (WMl Z sc3 mmD Z (WM_set (s := 32) (v := .int .i64 (i : Int)) Z (by rw [hbe]) ?_))))))))
 refine WMv Z (R_idxO hwq Z Tryz.underlying56 Tryz.sizeOf79 Z Z (by omega)) ?_
 refine WMv Z (R_loadO (v := ptrP mi.p) hwq Z sc79 Z mmD (fm_get0 encPq1 hmi (j := 0) (by omega))) ?_
 refine WMa Z (WMa Z (WMf Z fa90_8 (WMl Z sc3 mmD Z (WMa Z (WMa Z (WMd Z (D_call (xp_put hmi hi (h.po i mi si hmi hi) hiE s.cn good now (by omega)) Z Z Z Z pqD) ?_))))))
 rintro _ _ ⟨_, ⟨m1, rfl, rfl, hp1, h1⟩, rfl⟩
 refine ⟨⟨_, pqD⟩, ?_⟩
 refine WM_nil (WQ_code (WC_seq (WC_drawR (balH m.bm) [(0, true), (1, true), (2, true), (3, true), (4, true), (5, true), (6, true), (7, true), (8, true), (9, true), (10, false)] followsMixed Z Z (by kernel_rfl) pqD ?_)))
 refine WMa Z (WMa Z (WMf Z fa68_0 (WMl Z sc55 mmD Z (WMa Z (WMa Z (WMa Z (WMf Z fa90_6 (WMl Z sc3 mmD Z (WMa Z (WMd Z (D_call (bdt_ok h.bal (by omega) now s.cal good (by omega) (by omega)) Z Z Z Z pqD) ?_))))))))))
 rintro _ _ ⟨_, ⟨bm1, e1, rfl, rfl, hbp1, hb1⟩, rfl⟩
 refine ⟨⟨_, pqD⟩, ?_⟩
 refine WM_nil (WQ_code (WCr (WLa Z (WL_shape (A := [pxE m { x with now := now }, pxQ m]) pqD (pm_entB (s' := si.put s.cn good now) hmi hp1 hbp1 now (x.b.doneX now s.cal good) (A ++ B)) ?_))))
 refine WLa Z (WLf Z fa68_4 (WLl Z sc66 mmD Z (WLa Z (WL_do0 Z Z (D_deleteK (k := s.num) (a := s.p) Z Tryz.underlying66 int_key Z Z plD h.mp hin) ?_))))
 rintro _ _ ⟨es9, hM9, rfl⟩
 refine WL_nil (WQ_code (WCr (WLa Z (WLa Z (WLa Z (WLf Z fa90_7 (WLl Z sc3 mmD Z (WL_set (s := 62) (v := .int .i64 (i : Int)) Z (by rw [hbe]) ?_))))))))
 refine WLc Z (xdrain_ok (h.end1 hS hnd hmi hp1 h1 (by omega) hb1 hM9) g1 hi1 (by omega) (by show x.E.length + _ ≤ _; omega)) Z pqD ?_
 rintro _ _ ⟨_, ⟨m2, N2, rfl, rfl, hN2, h2, kp2, g2⟩, rfl⟩
 refine WL_nil (WQ_code (WCr (WLa Z (WL_nil (WQ_code (WC_ret ?_))))))
 refine WQ1 Z (by
   rw [hX]
   exact ⟨m2, rfl, rfl, h2.le (by omega), kp2.p⟩) pqD
theorem getV_k {si : PS} {who : Int} {now dl : Nat} (he : getE_ si who now dl = 0) : (si.getV who now dl).k = 1 ∨ (si.getV who now dl).k = 2 ∨ (si.getV who now dl).k = 3 := by
 by_cases hi : allI 3 si.C = []
 ·cases hr : si.room with
  | true => rw [(get_dial he hi hr).2]; exact .inr (.inl rfl)
  | false => rw [(get_wait he hi hr).2]; exact .inr (.inr rfl)
 ·rw [(get_use he hi).2]; exact .inl rfl
theorem get_n (si : PS) (hp : PH si) (who : Int) (now dl : Nat) : (si.getS who now dl).E = si.E ∧ (si.getS who now dl).n ≤ si.n + 1 ∧ PH (si.getS who now dl) := by
 by_cases he : getE_ si who now dl = 0
 ·obtain ⟨a, _, c, _, _, _, f, _⟩ := get_ev hp he
  exact ⟨f, c, a⟩
 ·rw [(get_err he).1]; exact ⟨rfl, Nat.le_succ _, hp⟩
theorem attX_fields (x : PX) (s : Ss) (si : PS) : (x.attX s si).P = x.P.set (x.pk s) (si.getS s.num x.now s.dl) ∧ (x.attX s si).b = x.b.pick s.key x.now ∧ (x.attX s si).now = x.now ∧ (x.attX s si).pl = x.pl ∧ (x.attX s si).E.length ≤ x.E.length + 1 := by
 by_cases h1 : (x.pv s si).k = 1
 ·rw [(attX_1 h1).1]; exact ⟨rfl, rfl, rfl, rfl, by show (x.E ++ [_]).length ≤ _; rw [List.length_append]; exact Nat.le_refl _⟩
 ·by_cases h2 : (x.pv s si).k = 2
  ·rw [(attX_2 h1 h2).1]; exact ⟨rfl, rfl, rfl, rfl, by show (x.E ++ [_]).length ≤ _; rw [List.length_append]; exact Nat.le_refl _⟩
  ·rw [(attX_3 h1 h2).1]; exact ⟨rfl, rfl, rfl, rfl, Nat.le_succ _⟩
theorem attS_fields (x : PX) (s : Ss) (si : PS) : (x.attS s si).num = s.num ∧ (x.attS s si).key = s.key ∧ (x.attS s si).tr = s.tr ∧ (x.attS s si).be = (x.pk s : Int) ∧ (x.attS s si).dl = s.dl := by
 by_cases h1 : (x.pv s si).k = 1
 ·rw [(attX_1 h1).2]; exact ⟨rfl, rfl, rfl, rfl, rfl⟩
 ·by_cases h2 : (x.pv s si).k = 2
  ·rw [(attX_2 h1 h2).2]; exact ⟨rfl, rfl, rfl, rfl, rfl⟩
  ·rw [(attX_3 h1 h2).2]; exact ⟨rfl, rfl, rfl, rfl, rfl⟩
theorem PoIn.attS {x : PX} (h : PXG x) {A B : List Ss} {s : Ss} (hS : x.S = A ++ s :: B) (hst : s.st ≠ 2) (hst3 : s.st ≠ 3) {si : PS} (hsi : x.P[x.pk s]? = some si) : PoIn (A ++ x.attS s si :: B) x.now (x.pk s) (si.getS s.num x.now s.dl) := by
 have hs : s ∈ x.S := by rw [hS]; exact List.mem_append_right _ (List.mem_cons_self ..)
 have hnd := h.noDial hs hst hst3
 have hnp := h.noPend hs hst hsi
 have h0 : PoIn (A ++ x.attS s si :: B) x.now (x.pk s) si := PoIn.away h hs hst hnd (by rw [hS]; exact onlyAt_swap _) hsi
 have hin : x.attS s si ∈ A ++ x.attS s si :: B := List.mem_append_right _ (List.mem_cons_self ..)
 obtain ⟨f1, f2, f3, f4, f5⟩ := attS_fields x s si
 by_cases he : getE_ si s.num x.now s.dl = 0
 ·obtain ⟨gp, _, _, gn, _⟩ := get_ev h0.ph he
  by_cases hi : allI 3 si.C = []
  ·cases hr : si.room with
   | true =>
    obtain ⟨e1, e2⟩ := get_dial he hi hr
    have h1 : ¬ (x.pv s si).k = 1 := by unfold PX.pv; rw [e2]; show ¬ (2 : Int) = 1; decide
    have h2 : (x.pv s si).k = 2 := by unfold PX.pv; rw [e2]
    have hS2 := (attX_2 h1 h2).2
    have hc : (x.pv s si).c = (si.free : Int) := by unfold PX.pv; rw [e2]
    rw [e1] at gp gn ⊢
    refine ⟨gp, by rw [gn]; exact Nat.le_refl _, h0.nd, h0.ks, h0.wt, fun c y hy hs1 => ?_⟩
    have hy : (si.C.set si.free ⟨1, s.num, 0⟩)[c]? = some y := hy
    by_cases e : si.free = c
    ·subst e
     have hl : si.free < si.C.length := by have := (List.getElem?_eq_some_iff.1 hy).1; rwa [List.length_set] at this
     rw [List.getElem?_set_self hl] at hy
     rw [← Option.some.inj hy]
     exact .inl ⟨_, hin, f1, by rw [hS2], f4, by rw [hS2]; exact hc⟩
    ·rw [List.getElem?_set_ne e] at hy
     exact h0.dl c y hy hs1
   | false =>
    obtain ⟨e1, e2⟩ := get_wait he hi hr
    have h1 : ¬ (x.pv s si).k = 1 := by unfold PX.pv; rw [e2]; show ¬ (3 : Int) = 1; decide
    have h2 : ¬ (x.pv s si).k = 2 := by unfold PX.pv; rw [e2]; show ¬ (3 : Int) = 2; decide
    have hS2 := (attX_3 h1 h2).2
    rw [e1] at gp gn ⊢
    have hpe : PS.pend { si with now := x.now, Q := si.Q ++ [⟨si.n + 1, s.num, s.dl⟩], n := si.n + 1 } = si.pend ++ [s.num] := by
     unfold PS.pend; simp
    refine ⟨gp, Nat.le_refl _, ?_, h0.ks, fun w hw => ?_, h0.dl⟩
    ·rw [hpe, List.nodup_append]
     exact ⟨h0.nd, by simp, fun a ha b hb => by rw [List.mem_singleton.1 hb]; rintro rfl; exact hnp ha⟩
    ·rw [hpe] at hw
     rcases List.mem_append.1 hw with hw | hw
     ·exact h0.wt w hw
     ·rw [List.mem_singleton.1 hw]
      exact ⟨_, hin, f1, by rw [hS2], f4⟩
  ·obtain ⟨e1, e2⟩ := get_use he hi
   rw [e1] at gp gn ⊢
   exact h0.op ((opd_at si x.now).trans (opd_set _ _ (by show (2 : Int) ≠ 1; decide))) gp (by rw [gn]; exact Nat.le_refl _)
 ·rw [(get_err he).1]; exact h0
theorem PXG.attF {x : PX} (h : PXG x) {A B : List Ss} {s : Ss} (hS : x.S = A ++ s :: B) (hst : s.st ≠ 2) (hst3 : s.st ≠ 3) (hpl : x.pl.tries ≤ 100) : PXG (x.attF s) := by
 have hs : s ∈ x.S := by rw [hS]; exact List.mem_append_right _ (List.mem_cons_self ..)
 have hnd := h.noDial hs hst hst3
 rw [← attF_eq hS h.nd]
 unfold PX.att
 by_cases hc : x.b.cand x.now = []
 ·rw [if_pos hc]
  have := h.fldF hS hst hnd hpl
  rw [fldF_eq hS h.nd] at this
  exact this
 ·rw [if_neg hc]
  cases hsi : x.P[x.pk s]? with
  | none => exact h
  | some si =>
   dsimp only
   obtain ⟨p1, p2, p3, p4, p5⟩ := attX_fields x s si
   obtain ⟨f1, f2, f3, f4, f5⟩ := attS_fields x s si
   refine h.swap hS rfl f1 (by rw [f2, f3]; exact h.ks s hs) (fun _ => ⟨_, f4, (List.getElem?_eq_some_iff.1 hsi).1⟩) ?_ ?_ ?_
   ·show (x.attX s si).b.last ≤ (x.attX s si).now
    rw [p2, p3]; exact Nat.le_refl _
   ·show (x.attX s si).P.length = _
    rw [p1, List.length_set]
   ·show ∀ (i : Nat) (sj : PS), (x.attX s si).P[i]? = some sj → PoIn _ (x.attX s si).now i sj
    rw [p1, p3]
    exact po_set hsi (PoIn.attS h hS hst hst3 hsi) fun j sj _ hj => PoIn.away h hs hst hnd (by rw [hS]; exact onlyAt_swap _) hj
def PX.dueF (now : Nat) (x : PX) (s : Ss) : PX := if s.dl ≤ now then { x.tell ⟨3, s.num, -1, -1, 12⟩ with S := x.S.filter fun y => decide (y.num ≠ s.num) } else x.attF s
abbrev ltS (a b : Ss) : Prop := a.til < b.til ∨ (a.til = b.til ∧ a.num < b.num)
def PX.due (x : PX) : List Ss := (x.S.filter (fun s => decide (s.st = 1 ∧ s.til ≤ x.now))).mergeSort (fun a b => decide (a.til < b.til ∨ (a.til = b.til ∧ a.num ≤ b.num)))
def PX.advP (now : Nat) (x : PX) (i : Nat) : PX := match x.P[i]? with
 | none => x
 | some si => PX.drain { x with P := x.P.set i (si.advance now) } i
def PX.advK (x : PX) (now k : Nat) : PX := (List.range k).foldl (PX.advP now) { x with now := now }
def PX.adv (x : PX) (now : Nat) : PX := (x.advK now x.P.length).due.foldl (PX.dueF now) (x.advK now x.P.length)
theorem advK_next (x : PX) (now k : Nat) : x.advK now (k + 1) = (x.advK now k).advP now k := by unfold PX.advK; rw [List.range_succ, List.foldl_append]; rfl
theorem due_perm (x : PX) : x.due.Perm (x.S.filter (fun s => decide (s.st = 1 ∧ s.til ≤ x.now))) := List.mergeSort_perm _ _
theorem due_mem {x : PX} {s : Ss} (h : s ∈ x.due) : s ∈ x.S ∧ s.st = 1 ∧ s.til ≤ x.now := by
 have := (due_perm x).mem_iff.1 h
 rw [List.mem_filter] at this
 exact ⟨this.1, of_decide_eq_true this.2⟩
theorem due_nodup {x : PX} (hn : (x.S.map (·.num)).Nodup) : (x.due.map (·.num)).Nodup := ((due_perm x).map _).nodup_iff.2 (hn.sublist ((List.filter_sublist ..).map _))
theorem due_srt {x : PX} (hn : (x.S.map (·.num)).Nodup) : x.due.Pairwise ltS := by
 have h1 : x.due.Pairwise (fun a b => decide (a.til < b.til ∨ (a.til = b.til ∧ a.num ≤ b.num)) = true) := List.pairwise_mergeSort (fun a b c h1 h2 => by simp only [decide_eq_true_eq] at *; omega) (fun a b => by simp only [Bool.or_eq_true, decide_eq_true_eq]; omega) _
 have h4 := due_nodup hn
 rw [List.nodup_iff_pairwise_ne, List.pairwise_map] at h4
 refine (h1.and h4).imp fun {a b} ⟨h3, h4⟩ => ?_
 simp only [decide_eq_true_eq] at h3
 show a.til < b.til ∨ (a.til = b.til ∧ a.num < b.num)
 omega
theorem PXG.advP {x : PX} (h : PXG x) (i : Nat) : PXG (x.advP x.now i) := by
 unfold PX.advP
 cases hi : x.P[i]? with
 | none => exact h
 | some si =>
  have hp := h.po i si hi
  obtain ⟨a, b⟩ := ph_adv hp.ph hp.nw
  exact (h.pool hi (hp.op (opd_adv (pend_who hp) x.now) a b)).drain i
theorem advP_P (now : Nat) (x : PX) (i : Nat) : (x.advP now i).now = x.now ∧ (x.advP now i).pl = x.pl ∧ (x.advP now i).P.length = x.P.length := by
 unfold PX.advP
 cases hi : x.P[i]? with
 | none => exact ⟨rfl, rfl, rfl⟩
 | some si => exact ⟨drain_now _ i, drain_pl _ i, by rw [drain_len]; exact List.length_set ..⟩
theorem drainL_other (i : Nat) : ∀ (n : Nat) (x : PX) (j : Nat), j ≠ i → (PX.drainL i n x).P[j]? = x.P[j]?
 | 0, _, _, _ => rfl
 | n + 1, x, j, hj => by
  unfold PX.drainL
  split
  ·rfl
  ·rename_i si hi
   split
   ·rfl
   ·rename_i e r hE
    rw [drainL_other i n _ j hj, (drE_P i _ e).1]
    exact List.getElem?_set_ne (fun q => hj q.symm)
theorem drain_other {x : PX} {i j : Nat} (hj : j ≠ i) : (x.drain i).P[j]? = x.P[j]? := by obtain ⟨n, e⟩ := drain_eqL x i; rw [e]; exact drainL_other i n x j hj
theorem advP_other {now : Nat} {x : PX} {i j : Nat} (hj : j ≠ i) : (x.advP now i).P[j]? = x.P[j]? := by
 unfold PX.advP
 cases hi : x.P[i]? with
 | none => rfl
 | some si =>
  show (PX.drain _ i).P[j]? = _
  rw [drain_other hj]
  exact List.getElem?_set_ne (fun q => hj q.symm)
theorem advK_facts (x : PX) (now : Nat) : ∀ k, (x.advK now k).now = now ∧ (x.advK now k).pl = x.pl ∧ (x.advK now k).P.length = x.P.length ∧ ∀ j, k ≤ j → (x.advK now k).P[j]? = x.P[j]?
 | 0 => ⟨rfl, rfl, rfl, fun _ _ => rfl⟩
 | k + 1 => by
  obtain ⟨a, b, c, d⟩ := advK_facts x now k
  obtain ⟨e, f, g⟩ := advP_P now (x.advK now k) k
  rw [advK_next]
  exact ⟨e.trans a, f.trans b, g.trans c, fun j hj => by rw [advP_other (by omega)]; exact d j (by omega)⟩
theorem PXG.advK {x : PX} (h : PXG x) {now : Nat} (hn : x.now ≤ now) : ∀ k, PXG (x.advK now k)
 | 0 => h.at_ hn
 | k + 1 => by
  have ih := PXG.advK h hn k
  have := ih.advP k
  rw [advK_next, ← (advK_facts x now k).1]
  rw [(advK_facts x now k).1] at this ⊢
  exact this
theorem PXG.drop1 {x : PX} (h : PXG x) {A B : List Ss} {s : Ss} (hS : x.S = A ++ s :: B) (hst : s.st ≠ 2) (hd : NoDial s.num x) (v : Xv) : PXG { x.tell v with S := A ++ B } := by
 have hs : s ∈ x.S := by rw [hS]; exact List.mem_append_right _ (List.mem_cons_self ..)
 exact h.drop hS rfl h.bl rfl fun i si hi => PoIn.away h hs hst hd (by rw [hS]; exact onlyAt_drop) hi
theorem PXG.dueF {x : PX} (h : PXG x) (now : Nat) {A B : List Ss} {s : Ss} (hS : x.S = A ++ s :: B) (hst : s.st = 1) (hpl : x.pl.tries ≤ 100) : PXG (x.dueF now s) := by
 have hs : s ∈ x.S := by rw [hS]; exact List.mem_append_right _ (List.mem_cons_self ..)
 unfold PX.dueF
 split
 ·rw [filt_num hS h.nd]
  exact h.drop1 hS (by rw [hst]; decide) (h.noDial hs (by rw [hst]; decide) (by rw [hst]; decide)) _
 ·exact h.attF hS (by rw [hst]; decide) (by rw [hst]; decide) hpl
def PXB (b : Nat) (x : PX) : Prop := ∀ si ∈ x.P, si.E = [] ∧ si.n ≤ b
theorem fldF_rest {x : PX} (s : Ss) : (x.fldF s).P = x.P ∧ (x.fldF s).now = x.now ∧ (x.fldF s).pl = x.pl ∧ (x.fldF s).E.length ≤ x.E.length + 1 ∧ (x.fldF s).b = x.b := by
 unfold PX.fldF
 split
 ·exact ⟨rfl, rfl, rfl, Nat.le_succ _, rfl⟩
 ·exact ⟨rfl, rfl, rfl, by show (x.E ++ [_]).length ≤ _; rw [List.length_append]; exact Nat.le_refl _, rfl⟩
theorem attF_rest {x : PX} (h : PXG x) (s : Ss) {b : Nat} (hb : PXB b x) : (x.attF s).now = x.now ∧ (x.attF s).pl = x.pl ∧ (x.attF s).E.length ≤ x.E.length + 1 ∧ PXB (b + 1) (x.attF s) ∧ (x.attF s).P.length = x.P.length := by
 have hb1 : PXB (b + 1) x := fun si hi => ⟨(hb si hi).1, Nat.le_succ_of_le (hb si hi).2⟩
 unfold PX.attF
 split
 ·obtain ⟨a, c, d, e, _⟩ := fldF_rest (x := x) s
  exact ⟨c, d, e, fun si hi => hb1 si (by rw [← a]; exact hi), by rw [a]⟩
 ·cases hsi : x.P[x.pk s]? with
  | none => exact ⟨rfl, rfl, Nat.le_succ _, hb1, rfl⟩
  | some si =>
   dsimp only
   obtain ⟨p1, p2, p3, p4, p5⟩ := attX_fields x s si
   refine ⟨p3, p4, p5, fun sj hj => ?_, by rw [p1]; exact List.length_set ..⟩
   have hj : sj ∈ (x.attX s si).P := hj
   rw [p1] at hj
   rcases List.mem_or_eq_of_mem_set hj with hj | rfl
   ·exact hb1 sj hj
   ·obtain ⟨e1, e2, _⟩ := get_n si (h.po _ si hsi).ph s.num x.now s.dl
    have := hb si (List.mem_of_getElem? hsi)
    exact ⟨by rw [e1]; exact this.1, by omega⟩
theorem dueF_rest {x : PX} (h : PXG x) (now : Nat) (s : Ss) {b : Nat} (hb : PXB b x) : (x.dueF now s).now = x.now ∧ (x.dueF now s).pl = x.pl ∧ (x.dueF now s).E.length ≤ x.E.length + 1 ∧ PXB (b + 1) (x.dueF now s) ∧ (x.dueF now s).P.length = x.P.length := by
 unfold PX.dueF
 split
 ·exact ⟨rfl, rfl, by show (x.E ++ [_]).length ≤ _; rw [List.length_append]; exact Nat.le_refl _, fun si hi => ⟨(hb si hi).1, Nat.le_succ_of_le (hb si hi).2⟩, rfl⟩
 ·exact attF_rest h s hb
theorem onlyAt_updS {S : List Ss} {n : Int} (f : Ss → Ss) : OnlyAt n S (updS S n f) := fun y hy hn => by
 unfold updS
 exact List.mem_map.2 ⟨y, hy, if_neg hn⟩
theorem onlyAt_filt {S : List Ss} {n : Int} : OnlyAt n S (S.filter fun y => decide (y.num ≠ n)) := fun y hy hn => List.mem_filter.2 ⟨hy, decide_eq_true hn⟩
theorem attF_only (x : PX) (s : Ss) : OnlyAt s.num x.S (x.attF s).S := by
 unfold PX.attF
 split
 ·unfold PX.fldF
  split
  ·exact onlyAt_updS _
  ·exact onlyAt_filt
 ·split
  ·exact onlyAt_updS _
  ·exact fun y hy _ => hy
theorem dueF_only (x : PX) (now : Nat) (s : Ss) : OnlyAt s.num x.S (x.dueF now s).S := by
 unfold PX.dueF
 split
 ·exact onlyAt_filt
 ·exact attF_only x s
abbrev encP (pl : Int → Nat) (v : Int) : List Value := [ptrS (pl v)]
abbrev ivsP (pl : Int → Nat) (l : List Int) : List Value := l.flatMap (encP pl)
theorem encP1 (pl : Int → Nat) (v : Int) : (encP pl v).length = 1 := rfl
theorem ivsP_len (pl : Int → Nat) (l : List Int) : (ivsP pl l).length = l.length := by rw [fm_length (encP1 pl)]; omega
abbrev plW (W : List (Int × Nat)) (a : Int) : Nat := getT W a 0
theorem xvit_ok {W : List (Int × Nat)} (bb mb : Nat) (es : Array MapEntry) (c : Nat) (hM : Mk ekW ptrS es c W) : IterAny Tryz.prog 91 [.pointer (some ⟨bb, 0, none⟩)] [⟨some bb, cl [.map (some mb)] 66⟩, ⟨some mb, .map es c⟩] (fun a : Int => [ptrS (plW W a)]) (fun pre x => x ∈ W.map (·.1) ∧ x ∉ pre) (fun xs => xs.Perm (W.map (·.1))) := by
 intro lp J Jx hY hj h0
 refine Spec.of (E := [(0, yieldV lp), (1, .pointer (some ⟨bb, 0, none⟩))]) Tryz.func91 rfl (by kernel_rfl) Tryz.ntmps91 rfl rfl (fun w => ?_)
 refine WCr (WLl Z sc66 mmZ Z (WLd Z (D_rangeMap Z Tryz.underlying66 Z mmZ) ?_))
 rintro _ _ ⟨bi, rfl, rfl⟩
 refine WL_nil (WQ_code (WC_block (WC_loopH (G := KyG Int) [4, 7, 8, 9, 10, 11, 12, 13, 14] (fun y => KsG ekW W es y.seen y.ys ∧ J y.ys y.hj) (fun y => []) (fun y => [⟨some bi, .mapIter (some mb) c y.seen c⟩, ⟨some bb, cl [.map (some mb)] 66⟩, ⟨some mb, .map es c⟩] ++ y.hj) (fun y => W.length - y.ys.length) (⟨#[], [], hj⟩) (⟨KsG.new ekW W es, h0⟩) leZ pqZ ?_)))
 rintro y ⟨hks, hJ⟩
 refine WCr (WLd Z (D_nextMap Z Z plZ mmZ hM.born) ?_)
 rintro _ _ (⟨rfl, rfl, hall⟩ | ⟨e, he, hns, rfl, rfl⟩)
 ·refine WLa Z (WL_set (s := 8) (v := .bool false) Z (by rfl) ?_)
  refine WL_nil (WQ_code (WC_seq (WC_F Z (WC_exit ?_))))
  refine WQ2 Z (by
    first | exact ⟨_, .inr ⟨_, hJ2⟩, rfl⟩ | exact ⟨_, .inl ⟨_, hks.done hM hall, hJ⟩, rfl⟩) pqZ
 ·refine WLa Z (WL_set (s := 8) (v := .bool true) Z (by rfl) ?_)
  refine WL_nil (WQ_code (WC_seq (WC_T Z (WC_skip (WQ_code (WC_block (WCr ?_)))))))
  obtain ⟨⟨k, v9⟩, hx, hek, hev⟩ := hM.back he
  dsimp only at hek hev
  obtain ⟨hmay, hks2⟩ := hks.next ekW_inj hM he hns hek
  have hgt : v9 = plW W k := (getT_in hM.nodup hx 0).symm
  refine WLv Z (R_entryMap Z Z mmZ mmZ he hM.bnd) ?_
  rw [hek, hev, hgt]
  refine WLa Z (WLa Z (WL_nil (WQ_code (WCr (WLa Z (WLa Z (WLd Z (D_yield (F := [_, _, _]) (hY y.ys k y.hj hmay hJ) Z Z Z Z (List.Perm.refl _)) ?_)))))))
  rintro _ _ ⟨hj2, (⟨rfl, hJ2⟩ | ⟨rfl, hJ2⟩), rfl⟩
  ·refine WLa Z (WL_nil (WQ_code (WC_F Z (WC_skip ?_))))
   refine WQ_nextH (gg := y) (⟨y.seen.push e.born, y.ys ++ [k], hj2⟩) (⟨hks2, hJ2⟩) (by have := hks2.len; rw [List.length_append, List.length_singleton] at this; dsimp only; rw [List.length_append, List.length_singleton]; omega) leZ (psZ) Z pqZ
  ·refine WLa Z (WL_nil (WQ_code (WC_T Z (WC_ret ?_))))
   refine WQ2 Z (by
     first | exact ⟨_, .inr ⟨_, hJ2⟩, rfl⟩ | exact ⟨_, .inl ⟨_, hks.done hM hall, hJ⟩, rfl⟩) pqZ
theorem xvals_ok (mb : Nat) : Spec Tryz.prog 44 [.map (some mb)] [] (fun r H' => ∃ bb, r = .func (.func 91) #[] #[.pointer (some ⟨bb, 0, none⟩)] ∧ H' = [⟨some bb, cl [.map (some mb)] 66⟩]) := by
 refine Spec.of (E := [(0, .map (some mb))]) Tryz.func44 rfl (by kernel_rfl) Tryz.ntmps44 rfl rfl (fun w => ?_)
 refine WCr (WLd Z (D_box (cs := [_]) Z Z Z) ?_)
 rintro _ _ ⟨b1, rfl, rfl⟩
 refine WLa Z (WL_nil (WQ_code (WCr (WLv Z (R_makeFunc Z Z Z) ?_))))
 refine WLa Z (WL_nil (WQ_code (WC_ret ?_)))
 refine WQ1 Z (by
   exact ⟨b1, rfl, rfl⟩) pqZ
theorem xapps_ok {W : List (Int × Nat)} (hl : W.length ≤ 1001) (bb mb : Nat) (es : Array MapEntry) (c : Nat) (hM : Mk ekW ptrS es c W) : Spec Tryz.prog 90 [.slice none 0 0, .func (.func 91) #[] #[.pointer (some ⟨bb, 0, none⟩)]] [⟨some bb, cl [.map (some mb)] 66⟩, ⟨some mb, .map es c⟩] (fun r H' => ∃ (xs : List Int) (o : Option Nat) (c2 : Nat) (tl : List Value), xs.Perm (W.map (·.1)) ∧ r = slV o xs.length c2 ∧ Own o xs.length c2 1 (ivsP (plW W) xs) tl ∧ H' = ⟨o, cl (ivsP (plW W) xs ++ tl) 87⟩ :: [⟨some bb, cl [.map (some mb)] 66⟩, ⟨some mb, .map es c⟩]) := by
 refine Spec.ofM (E := [(0, .slice none 0 0), (1, .func (.func 91) #[] #[.pointer (some ⟨bb, 0, none⟩)])]) Tryz.func90 rfl (by kernel_rfl) Tryz.ntmps90 rfl rfl (fun w => ?_)
 refine WCr (WLd Z (D_box (cs := [_]) Z Z Z) ?_)
 rintro _ _ ⟨b1, rfl, rfl⟩
 refine WLa Z (WL_nil (WQ_code (WC_seq (WCr (WLa Z (WL_nil (WQ_code (WC_block (WC_none 87 ?_)))))))))
 refine WC_rangeA (G := AsI) (GX := Unit) (xvit_ok bb mb es c hM) Z Z (fun _ => Z) Z (fun pre g => g.l = pre ∧ (pre.Nodup ∧ ∀ x ∈ pre, x ∈ W.map (·.1)) ∧ Own g.ob g.l.length g.c 1 (ivsP (plW W) g.l) g.tl) (fun g => [⟨some b1, cl [slV g.ob g.l.length g.c] 97⟩, ⟨g.ob, cl (ivsP (plW W) g.l ++ g.tl) 87⟩]) (fun _ _ _ => False) (fun _ => []) (⟨[], none, 0, []⟩) (⟨Z, ⟨.nil, fun x hx => by cases hx⟩, Own.empty 1⟩) pqZ pqZ ?_ ?_ ?_
 ·intro l pre x gg hx hI w2
  obtain ⟨hgl, ⟨hgn, hgs⟩, hgo⟩ := hI
  have hbl : gg.l.length ≤ 1001 := by rw [hgl]; have := pigeonG pre (W.map (·.1)) hgn hgs; rw [List.length_map] at this; omega
  refine WC_region (WLa Z (WL_nil ?_))
  refine WQ_begin (fun w3 => ?_)
  refine WC_block (WC_region (WLl Z sc97 mmZ Z (WLa Z (WLd Z (D_buildSlice Z si97 Z Z Z) ?_))))
  rintro _ _ ⟨b2, rfl, rfl⟩
  refine WLd Z (D_append Z si97 Z (hgo) plZ Z mmZ ((atZ : At _ 0 [_])) (Z) (Z) (by omega) (by omega)) ?_
  rintro _ _ ⟨ob3, cap3, tl3, rfl, own3, rfl⟩
  rw [show ivsP (plW W) gg.l ++ [ptrS (plW W x)] = ivsP (plW W) (gg.l ++ [x]) from by simp [ivsP], show gg.l.length + 1 = (gg.l ++ [x]).length from by simp] at own3 ⊢
  refine WLs (vs := [_]) Z Tryz.sizeOf97 Z Z plZ (nb Z) ?_
  refine WL_nil ?_
  refine WQ_rnd (⟨gg.l ++ [x], ob3, cap3, tl3⟩) ?_ pqZ
  exact (⟨by rw [← hgl], ⟨by rw [List.nodup_append]; exact ⟨hgn, by simp, fun a ha b hb => by rw [List.mem_singleton.1 hb]; rintro rfl; exact hx.2 ha⟩, fun y hy => by rcases List.mem_append.1 hy with hy | hy; exact hgs y hy; rw [List.mem_singleton.1 hy]; exact hx.1⟩, own3⟩)
 ·intro dl xs gg hall hI
  obtain ⟨hgl, _, hgo⟩ := hI
  subst hgl
  refine WQ_code (WCr (WLl Z sc97 mmZ Z (WLa Z (WL_nil (WQ_code (WC_ret ?_))))))
  refine WQ_retM Z plZ Z (.cons (.tmp Z) .nil) Z (by
    exact ⟨gg.l, gg.ob, gg.c, gg.tl, hall, rfl, hgo, rfl⟩) pqZ
 ·intro dl c pre gx hIx
  exact hIx.elim
theorem xcoll_ok {W : List (Int × Nat)} (hl : W.length ≤ 1001) (bb mb : Nat) (es : Array MapEntry) (c : Nat) (hM : Mk ekW ptrS es c W) : Spec Tryz.prog 43 [.func (.func 91) #[] #[.pointer (some ⟨bb, 0, none⟩)]] [⟨some bb, cl [.map (some mb)] 66⟩, ⟨some mb, .map es c⟩] (fun r H' => ∃ (xs : List Int) (o : Option Nat) (c2 : Nat) (tl : List Value), xs.Perm (W.map (·.1)) ∧ r = slV o xs.length c2 ∧ Own o xs.length c2 1 (ivsP (plW W) xs) tl ∧ H' = ⟨o, cl (ivsP (plW W) xs ++ tl) 87⟩ :: [⟨some bb, cl [.map (some mb)] 66⟩, ⟨some mb, .map es c⟩]) := by
 refine Spec.of (E := [(0, .func (.func 91) #[] #[.pointer (some ⟨bb, 0, none⟩)])]) Tryz.func43 rfl (by kernel_rfl) Tryz.ntmps43 rfl rfl (fun w => ?_)
 refine WCr (WLa Z (WL_nil (WQ_code (WCr (WLa Z (WLc Z (xapps_ok hl bb mb es c hM) Z pqZ ?_))))))
 rintro _ _ ⟨_, ⟨xs, o9, c9, tl9, hperm, rfl, own9, rfl⟩, rfl⟩
 refine WLa Z (WL_nil (WQ_code (WC_ret ?_)))
 refine WQ1 Z (by
   exact ⟨xs, o9, c9, tl9, hperm, rfl, own9, rfl⟩) pqZ
theorem xidxf_ok (pl : Int → Nat) (l : List Int) (o : Option Nat) (c : Nat) (tl : List Value) (own : Own o l.length c 1 (ivsP pl l) tl) (gf : Nat) (ca : List Value) (Hc : Heap) (p : Int → Bool) (hf : ∀ v ∈ l, Spec Tryz.prog gf (ptrS (pl v) :: ca) Hc (fun r H' => r = .bool (p v) ∧ Hc = H')) (hb : l.length ≤ 1000000) :
  Spec Tryz.prog 89 [slV o l.length c, .func (.func gf) #[] ca.toArray] (⟨o, cl (ivsP pl l ++ tl) 87⟩ :: Hc) (fun r H' => r = .int .i64 (idxF p l) ∧ H' = ⟨o, cl (ivsP pl l ++ tl) 87⟩ :: Hc) := by
 refine Spec.of (E := [(0, slV o l.length c), (1, .func (.func gf) #[] ca.toArray)]) Tryz.func89 rfl (by kernel_rfl) Tryz.ntmps89 rfl rfl (fun w => ?_)
 refine WCr (WLa Z (WL_nil (WQ_code (WC_seq (WCr (WLa Z (WLv Z (R_len Z Tryz.underlying97 Z) ?_)))))))
 refine WLa Z (WL_nil (WQ_code (WC_block (WC_loopF (G := Nat) [4, 5, 8, 9, 10, 11, 12, 13, 14, 15, 16, 17, 18] (fun k => k ≤ l.length ∧ ∀ v ∈ l.take k, p v = false) (fun k => [(8, .int .i64 (k : Int))]) (fun k => []) (fun k => l.length - k) (0) (⟨Nat.zero_le _, by simp⟩) leZ pqY ?_))))
 rintro k ⟨hk, hz⟩
 refine WCr (WLa Z (WL_nil (WQ_code (WC_seq ?_))))
 refine WC_dec Z (fun c1 => ?_) (fun c1 => ?_)
 ·refine WC_skip (WQ_code (WC_seq (WC_block (WCr (WLa Z (WLa Z (WL_nil (WQ_code (WCr ?_)))))))))
  obtain ⟨x, hx⟩ := getE (T := l) (i := k) (by omega)
  obtain ⟨wa, hwa⟩ := own.some_of (by omega)
  refine WLa Z (WLa Z (WLa Z (WLv Z (R_idxO hwa Z Tryz.underlying97 Tryz.sizeOf87 Z Z (by omega)) ?_)))
  refine WLv Z (R_loadO (v := ptrS (pl x)) hwa Z sc87 Z mmY (fm_get0 (encP1 pl) hx (j := 0) (by omega))) ?_
  refine WLc Z (hf x (List.mem_of_getElem? hx)) Z pqY ?_
  rintro _ _ ⟨_, ⟨rfl, rfl⟩, rfl⟩
  refine WL_nil (WQ_code ?_)
  refine WC_if Z (fun c2 => ?_) (fun c2 => ?_)
  ·have hc := c2
   refine WCr (WLa Z (WLa Z (WL_nil (WQ_code (WC_ret ?_)))))
   refine WQ1 Z (by
     exact ⟨congrArg (Value.int .i64) (idxF_hit hz hx hc).symm, rfl⟩) pqY
  ·have hc := c2
   refine WC_skip (WQ_code (WC_region (WLv Z (R_add Z Z Z (by omega)) ?_)))
   refine WLa Z (WL_nil ?_)
   refine WQ_nextF (k + 1) (⟨by omega, fun v hv => by rw [take_next hx] at hv; rcases List.mem_append.1 hv with hv | hv; exact hz v hv; rw [List.mem_singleton.1 hv]; exact hc⟩) (by omega) leZ (psZ) Z pqY
 ·have hkl : l.length ≤ k := by omega
  refine WC_exit (WQ_code (WCr (WLa Z (WL_nil (WQ_code (WC_ret ?_))))))
  refine WQ1 Z (by
    first | exact ⟨congrArg (Value.int .i64) (idxF_hit hz hx hc).symm, rfl⟩ | exact ⟨congrArg (Value.int .i64) (idxF_none (by rw [List.take_of_length_le hkl] at hz; exact hz)).symm, rfl⟩) pqY
theorem xdelf_none (pl : Int → Nat) (l : List Int) (o : Option Nat) (c : Nat) (tl : List Value) (own : Own o l.length c 1 (ivsP pl l) tl) (gf : Nat) (ca : List Value) (Hc : Heap) (p : Int → Bool) (hf : ∀ v ∈ l, Spec Tryz.prog gf (ptrS (pl v) :: ca) Hc (fun r H' => r = .bool (p v) ∧ Hc = H')) (hb : l.length ≤ 1000000) (hn : ∀ v ∈ l, p v = false) : Spec Tryz.prog 42 [slV o l.length c, .func (.func gf) #[] ca.toArray] (⟨o, cl (ivsP pl l ++ tl) 87⟩ :: Hc) (fun r H' => ∃ (n2 : Nat) (tl2 : List Value), n2 = (l.filter (fun v => !p v)).length ∧ r = slV o n2 c ∧ Own o n2 c 1 (ivsP pl (l.filter (fun v => !p v))) tl2 ∧ H' = ⟨o, cl (ivsP pl (l.filter (fun v => !p v)) ++ tl2) 87⟩ :: Hc) := by
 have hidx := idxF_none hn
 have hfl : l.filter (fun v => !p v) = l := List.filter_eq_self.2 fun v hv => by rw [hn v hv]; rfl
 rw [hfl]
 refine Spec.of (E := [(0, slV o l.length c), (1, .func (.func gf) #[] ca.toArray)]) Tryz.func42 rfl (by kernel_rfl) Tryz.ntmps42 rfl rfl (fun w => ?_)
 refine WCr (WLa Z (WL_nil (WQ_code (WCr (WLa Z (WLa Z (WLq Z (xidxf_ok pl l o c tl own gf ca Hc p hf hb) Z pqY ?_)))))))
 refine WLa Z (WL_nil (WQ_code (WC_seq (WCr (WLa Z (WLa Z (WL_nil (WQ_code (WC_dT Z (by exact hidx) ?_)))))))))
 refine WCr (WLa Z (WLa Z (WL_nil (WQ_code (WC_ret ?_)))))
 refine WQ1 Z (by
   exact ⟨_, tl, rfl, rfl, own, rfl⟩) pqY
theorem xdelf_some (pl : Int → Nat) (l : List Int) (o : Option Nat) (c : Nat) (tl : List Value) (own : Own o l.length c 1 (ivsP pl l) tl) (gf : Nat) (ca : List Value) (Hc : Heap) (p : Int → Bool) (hf : ∀ v ∈ l, Spec Tryz.prog gf (ptrS (pl v) :: ca) Hc (fun r H' => r = .bool (p v) ∧ Hc = H')) (hb : l.length ≤ 1000000) {k : Nat} {x0 : Int} (h0 : ∀ v ∈ l.take k, p v = false) (hx0 : l[k]? = some x0) (hp0 : p x0 = true) : Spec Tryz.prog 42 [slV o l.length c, .func (.func gf) #[] ca.toArray] (⟨o, cl (ivsP pl l ++ tl) 87⟩ :: Hc) (fun r H' => ∃ (n2 : Nat) (tl2 : List Value), n2 = (l.filter (fun v => !p v)).length ∧ r = slV o n2 c ∧ Own o n2 c 1 (ivsP pl (l.filter (fun v => !p v))) tl2 ∧ H' = ⟨o, cl (ivsP pl (l.filter (fun v => !p v)) ++ tl2) 87⟩ :: Hc) := by
 have hidx := idxF_hit h0 hx0 hp0
 have hkl := (List.getElem?_eq_some_iff.1 hx0).1
 have hlc := own.le
 obtain ⟨wa, rfl⟩ := own.some_of (by omega)
 have hfk : l.take k = (l.take (k + 1)).filter (fun v => !p v) := by rw [flt_next hx0, if_pos hp0, List.append_nil]; exact (List.filter_eq_self.2 fun v hv => by rw [h0 v hv]; rfl).symm
 have hstart : l = l.take k ++ ([x0] ++ l.drop (k + 1)) := by rw [List.singleton_append, ← drop_at hx0, List.take_append_drop]
 refine Spec.of (E := [(0, slV (some wa) l.length c), (1, .func (.func gf) #[] ca.toArray)]) Tryz.func42 rfl (by kernel_rfl) Tryz.ntmps42 rfl rfl (fun w => ?_)
 refine WCr (WLa Z (WL_nil (WQ_code (WCr (WLa Z (WLa Z (WLq Z (xidxf_ok pl l (some wa) c tl own gf ca Hc p hf hb) Z pqY ?_)))))))
 refine WLa Z (WL_nil (WQ_code (WC_seq (WCr (WLa Z (WLa Z (WL_nil (WQ_code (WC_dF Z (by rw [hidx]; omega) ?_)))))))))
 refine WC_skip (WQ_code (WC_seq (WCr (WLa Z (WLv Z (R_add Z Z Z (by omega)) ?_)))))
 refine WLa Z (WL_nil (WQ_code (WC_block (WC_set (s := 6) (v := .int .i64 ((k + 1 : Nat) : Int)) Z (by rw [hidx]; rfl) ?_))))
 refine WC_set (s := 5) (v := .int .i64 (((l.take k).length : Nat) : Int)) Z (by rw [hidx, List.length_take, Nat.min_eq_left (by omega)]) ?_
 rw [show cl (ivsP pl l ++ tl) 87 = cl (ivsP pl (l.take k ++ ([x0] ++ l.drop (k + 1))) ++ tl) 87 from by rw [← hstart]]
 refine WC_loopF (G := DelW) [5, 6, 7, 16, 17, 18, 19, 20, 21, 22, 23, 24, 25, 26, 27, 28, 29, 30, 31, 32, 33, 34, 35] (fun y => y.j ≤ l.length ∧ y.A = (l.take y.j).filter (fun v => !p v) ∧ y.A.length + y.J.length = y.j ∧ 1 ≤ y.J.length) (fun y => [(6, .int .i64 (y.j : Int)), (5, .int .i64 (y.A.length : Int))]) (fun y => [⟨some wa, cl (ivsP pl (y.A ++ (y.J ++ l.drop y.j)) ++ tl) 87⟩]) (fun y => l.length - y.j) (⟨k + 1, l.take k, [x0]⟩) (⟨by dsimp only; omega, hfk, by dsimp only; rw [List.length_take, Nat.min_eq_left (by omega)]; rfl, Nat.le_refl _⟩) leZ pqY ?_
 rintro y ⟨hj, hA, hAJ, hJ⟩
 refine WC_seq (WCr (WLa Z (WLa Z (WLv Z (R_len Z Tryz.underlying97 Z) ?_))))
 refine WLa Z (WL_nil (WQ_code ?_))
 refine WC_dec Z (fun c1 => ?_) (fun c1 => ?_)
 ·refine WC_skip (WQ_code (WC_seq (WC_block (WCr ?_))))
  obtain ⟨x, hx⟩ := getE (T := l) (i := y.j) (by omega)
  have hdx := drop_at hx
  have hxm : (y.A ++ (y.J ++ l.drop y.j))[y.j]? = some x := by rw [hdx]; exact mid_get hAJ
  refine WLa Z (WLa Z (WLv Z (R_indexAddrN Z Tryz.underlying97 Tryz.sizeOf87 Z Z (by omega)) ?_))
  refine WLv Z (R_load (v := ptrS (pl x)) Z sc87 Z mmY (fm_get0 (encP1 pl) hxm (j := 0) (by omega))) ?_
  refine WLa Z (WL_nil (WQ_code (WCr (WLa Z (WLa Z (WLc Z (hf x (List.mem_of_getElem? hx)) Z pqY ?_))))))
  rintro _ _ ⟨_, ⟨rfl, rfl⟩, rfl⟩
  refine WLa Z (WL_nil (WQ_code ?_))
  refine WC_if Z (fun c2 => ?_) (fun c2 => ?_)
  ·have hc : p x = false := by simpa using c2
   obtain ⟨y9, J2, hJ2⟩ : ∃ a b, y.J = a :: b := by cases hq : y.J with | nil => rw [hq] at hJ; simp at hJ | cons a b => exact ⟨a, b, rfl⟩
   have hset : (y.A ++ (y.J ++ l.drop y.j)).set y.A.length x = (y.A ++ [x]) ++ ((J2 ++ [x]) ++ l.drop (y.j + 1)) := by rw [hJ2, mid_set, hdx]; simp
   refine WCr (WLa Z (WLa Z (WLa Z (WLv Z (R_indexAddrN Z Tryz.underlying97 Tryz.sizeOf87 Z Z (by omega)) ?_))))
   refine WLs (vs := [_]) Z Tryz.sizeOf87 Z Z plY (by exact fm_room0 (encP1 pl) (show y.A.length < (y.A ++ (y.J ++ l.drop y.j)).length by rw [List.length_append, List.length_append]; omega) (j := 0) (by omega)) ?_
   have hput := fm_put0 (encP1 pl) x (show (y.A ++ (y.J ++ l.drop y.j))[y.A.length]? = some y9 by rw [hJ2]; exact mid_at) (j := 0) (vs := [ptrS (pl x)]) (by simp) rfl (tl := tl)
   rw [Nat.add_zero] at hput
   rw [show ivsP pl (y.A ++ (y.J ++ l.drop y.j)) = (y.A ++ (y.J ++ l.drop y.j)).flatMap (encP pl) from rfl, hput]
   refine WL_nil (WQ_code (WC_region (WLa Z (WLv Z (R_add Z Z Z (by omega)) ?_))))
   refine WL_set (s := 35) (v := .int .i64 (((y.A ++ [x]).length : Nat) : Int)) Z (by rw [List.length_append]; rfl) ?_
   refine WLa Z (WL_nil (WQ_code (WC_region (WLa Z (WLv Z (R_add Z Z Z (by omega)) ?_)))))
   refine WLa Z (WL_nil ?_)
   rw [hset]
   refine WQ_nextF (⟨y.j + 1, y.A ++ [x], J2 ++ [x]⟩) (⟨by dsimp only; omega, by dsimp only; rw [flt_next hx, if_neg (by rw [hc]; decide), ← hA], by dsimp only; rw [List.length_append, List.length_append]; simp only [List.length_cons, List.length_nil]; rw [hJ2] at hAJ; rw [List.length_cons] at hAJ; omega, by dsimp only; rw [List.length_append]; simp⟩) (by dsimp only; omega) leZ (psZ) Z pqY
  ·have hc : p x = true := by simpa using c2
   refine WC_skip (WQ_code (WC_region (WLa Z (WLv Z (R_add Z Z Z (by omega)) ?_))))
   refine WLa Z (WL_nil ?_)
   rw [show y.A ++ (y.J ++ l.drop y.j) = y.A ++ ((y.J ++ [x]) ++ l.drop (y.j + 1)) from by rw [hdx]; simp]
   refine WQ_nextF (⟨y.j + 1, y.A, y.J ++ [x]⟩) (⟨by dsimp only; omega, by dsimp only; rw [flt_next hx, if_pos hc, List.append_nil]; exact hA, by dsimp only; rw [List.length_append]; simp only [List.length_cons, List.length_nil]; omega, by dsimp only; rw [List.length_append]; omega⟩) (by dsimp only; omega) leZ (psZ) Z pqY
 ·have hjl : y.j = l.length := by omega
  have hdl : l.drop y.j = [] := by rw [hjl, List.drop_length]
  refine WC_exit (WQ_code (WCr (WLa Z (WLa Z (WLv Z (R_sliceFromK (m := y.A.length) Z Tryz.underlying97 Tryz.sizeOf87 Z Z (by omega)) ?_)))))
  rw [if_neg (by omega)]
  refine WL_do0 Z Z (D_clear Z si97 (fun v hv => by simp at hv; subst hv; rfl) Z plY (.inr (by rw [hdl, List.append_nil]; (show _ ≤ (ivsP pl (y.A ++ y.J) ++ tl).length); rw [List.length_append, ivsP_len, List.length_append]; omega))) ?_
  rintro _ _ ⟨ns, hns, rfl⟩
  rw [hdl, List.append_nil, show putAt (ivsP pl (y.A ++ y.J) ++ tl) (0 + y.A.length * 1) ns = ivsP pl y.A ++ (ns ++ tl) from by rw [show ivsP pl (y.A ++ y.J) = ivsP pl y.A ++ ivsP pl y.J from List.flatMap_append, List.append_assoc, show 0 + y.A.length * 1 = (ivsP pl y.A).length + 0 from by rw [ivsP_len]; omega, putAt_append, putAt_eq _ _ _ (by rw [List.length_append, ivsP_len]; omega)]; rw [List.take_zero, List.nil_append, Nat.zero_add, List.drop_append_of_le_length (by rw [ivsP_len]; omega), List.drop_of_length_le (by rw [ivsP_len]; omega), List.nil_append]]
  refine WL_nil (WQ_code (WCr (WLa Z (WLa Z (WLv Z (R_sliceTo (m := y.A.length) Z Tryz.underlying97 Tryz.sizeOf87 Z Z (by omega)) ?_)))))
  refine WLa Z (WL_nil (WQ_code (WC_ret ?_)))
  rw [hjl, List.take_length] at hA
  rw [← hA]
  refine WQ1 Z (by
    exact ⟨y.A.length, ns ++ tl, rfl, rfl, ⟨by rw [ivsP_len]; omega, by have h8 := own.cap; rw [ivsP_len] at h8 ⊢; rw [List.length_append]; omega, by omega, own.big, fun e => by cases e⟩, rfl⟩) pqY
theorem xdelf_ok (pl : Int → Nat) (l : List Int) (o : Option Nat) (c : Nat) (tl : List Value) (own : Own o l.length c 1 (ivsP pl l) tl) (gf : Nat) (ca : List Value) (Hc : Heap) (p : Int → Bool) (hf : ∀ v ∈ l, Spec Tryz.prog gf (ptrS (pl v) :: ca) Hc (fun r H' => r = .bool (p v) ∧ Hc = H')) (hb : l.length ≤ 1000000) : Spec Tryz.prog 42 [slV o l.length c, .func (.func gf) #[] ca.toArray] (⟨o, cl (ivsP pl l ++ tl) 87⟩ :: Hc) (fun r H' => ∃ (n2 : Nat) (tl2 : List Value), n2 = (l.filter (fun v => !p v)).length ∧ r = slV o n2 c ∧ Own o n2 c 1 (ivsP pl (l.filter (fun v => !p v))) tl2 ∧ H' = ⟨o, cl (ivsP pl (l.filter (fun v => !p v)) ++ tl2) 87⟩ :: Hc) := by
 by_cases hn : ∀ v ∈ l, p v = false
 ·exact xdelf_none pl l o c tl own gf ca Hc p hf hb hn
 ·have key : ∀ (l : List Int), ¬ (∀ v ∈ l, p v = false) → ∃ k x0, (∀ v ∈ l.take k, p v = false) ∧ l[k]? = some x0 ∧ p x0 = true := by
   intro l
   induction l with
   | nil => intro h; exact absurd (fun v hv => by cases hv) h
   | cons a r ih =>
    intro h
    cases hp : p a with
    | true => exact ⟨0, a, fun v hv => by simp at hv, rfl, hp⟩
    | false =>
     obtain ⟨k, x0, h1, h2, h3⟩ := ih fun hr => h fun v hv => by
      rcases List.mem_cons.1 hv with rfl | hv
      ·exact hp
      ·exact hr v hv
     refine ⟨k + 1, x0, fun v hv => ?_, by simpa using h2, h3⟩
     rw [List.take_succ_cons] at hv
     rcases List.mem_cons.1 hv with rfl | hv
     ·exact hp
     ·exact h1 v hv
  obtain ⟨k, x0, h1, h2, h3⟩ := key l hn
  exact xdelf_some pl l o c tl own gf ca Hc p hf hb h1 h2 h3
section
open Go.Shelf Go.RowKit Go.Lib Go.Sort
theorem hw_grow {Hc : Heap} {W W' : World} (h : HOK Hc W) (c : HW Hc W Hc W') : ∃ q os', W' = grow (W.drewN q) os' := by
  have hb := HW.belOf h c
  refine ⟨W'.drawn - W.drawn, W'.heap.extract W.heap.size W'.heap.size, ?_⟩
  have hheap : W'.heap = W.heap ++ W'.heap.extract W.heap.size W'.heap.size := by
    apply Array.ext_getElem?
    intro k
    rw [Array.getElem?_append]
    by_cases hk : k < W.heap.size
    · rw [if_pos hk]; exact hb.block k hk
    · rw [if_neg hk, Array.getElem?_extract]
      by_cases h2 : k < W'.heap.size
      · rw [if_pos (by omega)]; congr 1; omega
      · rw [if_neg (by omega), Array.getElem?_eq_none (by omega)]
  have hdr := c.dr
  obtain ⟨hp, tp, dr, os, out⟩ := W'
  obtain ⟨hp0, tp0, dr0, os0, out0⟩ := W
  have e1 := c.os
  have e2 := c.tape
  have e3 := c.output
  dsimp only at e1 e2 e3 hdr hheap
  subst e1 e2 e3
  simp only [grow, World.drewN, World.mk.injEq, true_and, and_true]
  exact ⟨hheap, by omega⟩
section
variable {α : Type} [Inhabited α] {enc : α → Value}
theorem holds_of {w : World} {b : Nat} {e : TypeId} {d : List α} {tl : List Value} (hb : w.heap[b]? = some (cl (d.map enc ++ tl) e)) : Holds enc w b 0 d.toArray := fun j hj => by
  have hj' : j < d.length := by simpa using hj
  have hg : (d.map enc ++ tl)[j]? = some (enc d[j]) := by rw [List.getElem?_append_left (by simpa using hj'), List.getElem?_map, List.getElem?_eq_getElem hj']; rfl
  refine ⟨?_, ?_⟩
  · simp only [World.cell?, hb, cl, Nat.zero_add, List.getElem?_toArray, hg]
    simp [hj']
  · simp [World.frozen?, hb, cl]
theorem sw_hw {Hc : Heap} {w : World} {b : Nat} {e : TypeId} {d d' : List α} {tl : List Value} (hw : HOK (⟨some b, cl (d.map enc ++ tl) e⟩ :: Hc) w) (hl : d'.length = d.length) (m : Nat) (os : Array Obj) :
    HW (⟨some b, cl (d.map enc ++ tl) e⟩ :: Hc) w (⟨some b, cl (d'.map enc ++ tl) e⟩ :: Hc) (sortWorld enc w b 0 m d'.toArray os) := by
  have hb : w.heap[b]? = some (cl (d.map enc ++ tl) e) := by
    have := hw.ok _ (List.mem_cons_self ..)
    simpa [Ent.ok] using this
  have hlt := (Array.getElem?_eq_some_iff.1 hb).1
  have hput : putCells enc 0 d'.toArray (d.map enc ++ tl).toArray = (d'.map enc ++ tl).toArray := by
    apply Array.ext_getElem?
    intro k
    simp only [putCells, Array.getElem?_mapIdx, List.getElem?_toArray]
    by_cases hk : k < d'.length
    · rw [List.getElem?_append_left (by simpa using (by omega : k < d.length)), List.getElem?_append_left (by simpa using hk), List.getElem?_map, List.getElem?_map, List.getElem?_eq_getElem (by omega : k < d.length), List.getElem?_eq_getElem hk]
      simp [hk]
    · rw [List.getElem?_append_right (by simp; omega), List.getElem?_append_right (by simp; omega)]
      simp only [List.length_map, hl]
      cases tl[k - d.length]? with
      | none => rfl
      | some v => simp [hk]
  have hsame : (sortWorld enc w b 0 m d'.toArray os).heap[b]? = some (cl (d'.map enc ++ tl) e) := by
    simp only [sortWorld, grow, putRow, mapBlock, Sort.ahead, Array.getElem?_append, Array.size_modify, hlt, if_true, Array.getElem?_modify, hb, Option.map_some, cl, onCells]
    rw [hput]
  have hother : ∀ k, k < w.heap.size → k ≠ b → (sortWorld enc w b 0 m d'.toArray os).heap[k]? = w.heap[k]? := fun k hk hne => by
    simp only [sortWorld, grow, putRow, mapBlock, Sort.ahead, Array.getElem?_append, Array.size_modify, hk, if_true, Array.getElem?_modify, if_neg (Ne.symm hne)]
  have hnd := hw.nodup
  simp only [keys, List.filterMap_cons, List.nodup_cons] at hnd
  refine ⟨⟨by simp only [keys, List.filterMap_cons, List.nodup_cons]; exact hnd, fun x hx => ?_⟩, rfl, rfl, rfl, ?_, fun k hk hn => ?_, fun k hk => .inl (by simpa [keys] using hk), ?_⟩
  · rcases List.mem_cons.1 hx with rfl | hx2
    · simpa [Ent.ok] using hsame
    · have h1 := hw.ok x (List.mem_cons_of_mem _ hx2)
      cases hxb : x.b with
      | none => simp only [Ent.ok, hxb] at h1 ⊢; exact h1
      | some c =>
        simp only [Ent.ok, hxb] at h1 ⊢
        have hne : c ≠ b := fun e => hnd.1 (by subst e; exact List.mem_filterMap.2 ⟨x, hx2, hxb⟩)
        rw [hother c (Array.getElem?_eq_some_iff.1 h1).1 hne]; exact h1
  · simp [sortWorld, grow, putRow, mapBlock, Sort.ahead]
  · exact hother k hk (fun e => hn (by subst e; simp [keys]))
  · simp [sortWorld, grow, putRow, mapBlock, Sort.ahead]
theorem sort_ok {P : Program} {ρ : Ren} (L : SlLaysF.n6 P ρ) (f : Nat) (hf : ρ.f 6 = f) (h1 : OneCell enc) (cf : α → α → Int) (hO : SWO (ltOf cf)) (g : Nat) (cb : List Value) (Hc : Heap)
    (hcmp : ∀ x y, Spec P g ([enc x, enc y] ++ cb) Hc (fun r H' => r = .int .i64 (cf x y) ∧ H' = Hc)) (hen : Enters P f) (b n c : Nat) (e : TypeId) (d : List α) (tl : List Value) (hn : d.length = n) (hsz : n < 4611686018427387904) :
    Spec P f [slV (some b) n c, .func (.func g) #[] cb.toArray] (⟨some b, cl (d.map enc ++ tl) e⟩ :: Hc)
      (fun r H' => ∃ d' : List α, r = .tuple #[] ∧ d'.Perm d ∧ d'.Pairwise (fun x y => ltOf cf y x = false) ∧ H' = ⟨some b, cl (d'.map enc ++ tl) e⟩ :: Hc) := by
  subst hf hn
  refine ⟨hen, fun w hw => callsIn_wide.2 ?_⟩
  have hb : w.heap[b]? = some (cl (d.map enc ++ tl) e) := by
    have := hw.ok _ (List.mem_cons_self ..)
    simpa [Ent.ok] using this
  have hlt := (Array.getElem?_eq_some_iff.1 hb).1
  have hc : CmpLays1 P g cb.toArray enc cf b 0 d.toArray.size w := fun m os dk hdk x y => by
    have hw2 := (sw_hw (d' := dk.toList) hw (by simpa using hdk) m os)
    simp only [Array.toArray_toList] at hw2
    have hok : HOK Hc (sortWorld enc w b 0 m dk os) := (hw2.perm (by simpa using (List.perm_append_comm (l₁ := [_]) (l₂ := Hc)))).left.hok
    have := callsIn_wide.1 ((hcmp x y).calls _ hok)
    rw [show (#[enc x, enc y] ++ cb.toArray : Array Value) = ([enc x, enc y] ++ cb).toArray from by simp]
    refine this.mono fun e w' ⟨v, H', e1, ⟨e2, e3⟩, e4⟩ => ⟨by rw [e1, e2], ?_⟩
    subst e3
    exact hw_grow hok e4
  have := Any.slices_SortFunc L enc h1 cf hO g cb.toArray b 0 c d.toArray w (hcmp default default).enters hc (holds_of hb) hlt (by simpa using hsz)
  refine this.mono fun e w' ⟨he, d', m, os, hp, hs, hwe⟩ => ?_
  obtain ⟨hs1, _, hp2⟩ := hp
  have hsz2 : d'.size = d.length := by simpa using hs1
  refine ⟨_, _, he, ⟨d'.toList, rfl, ?_, ?_, rfl⟩, ?_⟩
  · have e1 : d'.extract 0 d.toArray.size = d' := by simp [← hsz2]
    have e2 : d.toArray.extract 0 d.toArray.size = d.toArray := by simp
    rw [e1, e2] at hp2
    simpa using hp2
  · rw [List.pairwise_iff_getElem]
    intro i j hi hj hij
    have := hs i j (Nat.zero_le _) hij (by simpa [hsz2] using hj)
    have hi' : i < d'.size := by simpa using hi
    have hj' : j < d'.size := by simpa using hj
    simpa [hi', hj'] using this
  · rw [hwe]
    have := sw_hw (d' := d'.toList) hw (by simpa using hsz2) m os
    simpa only [Array.toArray_toList] using this
end
end
section
open Go.Shelf
def lysP_ren : Go.Shelf.Ren := ⟨fun | 6 => 46 | 14 => 92 | 15 => 93 | 20 => 135 | 21 => 136 | 22 => 137 | 23 => 138 | 24 => 139 | 25 => 140 | 26 => 141 | 27 => 142 | 28 => 143 | 29 => 144 | 46 => 173 | 47 => 174 | 48 => 175 | 49 => 176 | 50 => 177 | 57 => 183 | n => n, fun | 0 => 0 | 3 => 3 | 4 => 4 | 5 => 5 | 9 => 9 | 22 => 97 | 24 => 87 | 25 => 108 | 39 => 44 | 45 => 219 | 46 => 220 | 50 => 158 | 53 => 26 | 55 => 24 | 66 => 247 | 70 => 251 | 76 => 256 | 77 => 257 | n => n, fun n => n⟩
theorem lysP : SlLaysF.n6 Tryz.prog lysP_ren := {
 mixed := by kernel_rfl,
 f6 := ⟨Tryz.f46.name, by decide, Tryz.func46.trans (congrArg some (by kernel_rfl))⟩,
 f14 := ⟨Tryz.f92.name, by decide, Tryz.func92.trans (congrArg some (by kernel_rfl))⟩,
 f15 := Tryz.func93.trans (congrArg some (by kernel_rfl)),
 f20 := ⟨Tryz.f135.name, by decide, Tryz.func135.trans (congrArg some (by kernel_rfl))⟩,
 f21 := ⟨Tryz.f136.name, by decide, Tryz.func136.trans (congrArg some (by kernel_rfl))⟩,
 f22 := ⟨Tryz.f137.name, by decide, Tryz.func137.trans (congrArg some (by kernel_rfl))⟩,
 f23 := ⟨Tryz.f138.name, by decide, Tryz.func138.trans (congrArg some (by kernel_rfl))⟩,
 f24 := ⟨Tryz.f139.name, by decide, Tryz.func139.trans (congrArg some (by kernel_rfl))⟩,
 f25 := ⟨Tryz.f140.name, by decide, Tryz.func140.trans (congrArg some (by kernel_rfl))⟩,
 f26 := ⟨Tryz.f141.name, by decide, Tryz.func141.trans (congrArg some (by kernel_rfl))⟩,
 f27 := ⟨Tryz.f142.name, by decide, Tryz.func142.trans (congrArg some (by kernel_rfl))⟩,
 f28 := Tryz.func143.trans (congrArg some (by kernel_rfl)),
 f29 := Tryz.func144.trans (congrArg some (by kernel_rfl)),
 f46 := ⟨Tryz.f173.name, by decide, Tryz.func173.trans (congrArg some (by kernel_rfl))⟩,
 f47 := Tryz.func174.trans (congrArg some (by kernel_rfl)),
 f48 := Tryz.func175.trans (congrArg some (by kernel_rfl)),
 f49 := ⟨Tryz.f176.name, by decide, Tryz.func176.trans (congrArg some (by kernel_rfl))⟩,
 f50 := ⟨Tryz.f177.name, by decide, Tryz.func177.trans (congrArg some (by kernel_rfl))⟩,
 f57 := ⟨Tryz.f183.name, by decide, Tryz.func183.trans (congrArg some (by kernel_rfl))⟩,
 t0 := Tryz.underlying0,
 a0 := Tryz.isAgg0,
 z0 := Tryz.sizeOf0,
 v0 := Tryz.zeroValue0,
 t3 := Tryz.underlying3,
 a3 := Tryz.isAgg3,
 z3 := Tryz.sizeOf3,
 v3 := Tryz.zeroValue3,
 t4 := Tryz.underlying4,
 a4 := Tryz.isAgg4,
 z4 := Tryz.sizeOf4,
 v4 := Tryz.zeroValue4,
 t5 := Tryz.underlying5,
 a5 := Tryz.isAgg5,
 z5 := Tryz.sizeOf5,
 v5 := Tryz.zeroValue5,
 t9 := Tryz.underlying9,
 a9 := Tryz.isAgg9,
 z9 := Tryz.sizeOf9,
 v9 := Tryz.zeroValue9,
 t22 := Tryz.underlying97,
 a22 := Tryz.isAgg97,
 z22 := Tryz.sizeOf97,
 v22 := Tryz.zeroValue97,
 a24 := Tryz.isAgg87,
 z24 := Tryz.sizeOf87,
 t25 := Tryz.underlying108,
 a25 := Tryz.isAgg108,
 z25 := Tryz.sizeOf108,
 v25 := Tryz.zeroValue108,
 t39 := Tryz.underlying44,
 a39 := Tryz.isAgg44,
 z39 := Tryz.sizeOf44,
 v39 := Tryz.zeroValue44,
 t45 := Tryz.underlying219,
 a45 := Tryz.isAgg219,
 z45 := Tryz.sizeOf219,
 v45 := Tryz.zeroValue219,
 t46 := Tryz.underlying220,
 a46 := Tryz.isAgg220,
 z46 := Tryz.sizeOf220,
 v46 := Tryz.zeroValue220,
 t50 := Tryz.underlying158,
 a50 := Tryz.isAgg158,
 z50 := Tryz.sizeOf158,
 v50 := Tryz.zeroValue158,
 t53 := Tryz.underlying26,
 a53 := Tryz.isAgg26,
 z53 := Tryz.sizeOf26,
 v53 := Tryz.zeroValue26,
 t55 := Tryz.underlying24,
 a55 := Tryz.isAgg24,
 z55 := Tryz.sizeOf24,
 v55 := Tryz.zeroValue24,
 t66 := Tryz.underlying247,
 a66 := Tryz.isAgg247,
 z66 := Tryz.sizeOf247,
 v66 := Tryz.zeroValue247,
 t70 := Tryz.underlying251,
 a70 := Tryz.isAgg251,
 z70 := Tryz.sizeOf251,
 v70 := Tryz.zeroValue251,
 t76 := Tryz.underlying256,
 a76 := Tryz.isAgg256,
 z76 := Tryz.sizeOf256,
 v76 := Tryz.zeroValue256,
 t77 := Tryz.underlying257,
 a77 := Tryz.isAgg257,
 z77 := Tryz.sizeOf257,
 v77 := Tryz.zeroValue257 }
end
section
open Go.Shelf Go.RowKit Go.Lib Go.Sort
section
variable {α : Type} [Inhabited α] {enc : α → List Value} {k : Nat}
end
theorem sort_none {P : Program} {ρ : Ren} (L : SlLaysF0.n6 P ρ) (f : Nat) (hf : ρ.f 6 = f) (hen : Enters P f) (ob : Option Nat) (c : Nat) (fv : Value) : Spec P f [slV ob 0 c, fv] [] (fun r H' => r = .tuple #[] ∧ H' = []) := by
  subst hf
  refine ⟨hen, fun w hw => callsIn_wide.2 ?_⟩
  have h : ∀ p, Calls P (ρ.f 6) #[.slice p 0 c, fv] w fun e w' => e = .returned (.tuple #[]) ∧ w' = w := fun p => AnyF.slices_SortFunc_none L p c fv w
  cases ob with
  | none => exact (h none).mono fun e w' ⟨e1, e2⟩ => ⟨_, _, e1, ⟨rfl, rfl⟩, by rw [e2]; exact HW.start hw⟩
  | some b => exact (h (some ⟨b, 0, none⟩)).mono fun e w' ⟨e1, e2⟩ => ⟨_, _, e1, ⟨rfl, rfl⟩, by rw [e2]; exact HW.start hw⟩
end
section
open Go.Shelf
def lysQ_ren : Go.Shelf.Ren := ⟨fun | 6 => 46 | 14 => 92 | 15 => 93 | 20 => 135 | 21 => 136 | 22 => 137 | 23 => 138 | 24 => 139 | 25 => 140 | 26 => 141 | 27 => 142 | 28 => 143 | 29 => 144 | 46 => 173 | 47 => 174 | 48 => 175 | 49 => 176 | 50 => 177 | 57 => 183 | n => n, fun | 0 => 0 | 3 => 3 | 4 => 4 | 5 => 5 | 9 => 9 | 22 => 97 | 24 => 87 | 25 => 108 | 39 => 44 | 45 => 219 | 46 => 220 | 50 => 158 | 53 => 26 | 55 => 24 | 66 => 247 | 70 => 251 | 76 => 256 | 77 => 257 | n => n, fun n => n⟩
theorem lysQ : SlLaysF0.n6 Tryz.prog lysQ_ren := {
 mixed := by kernel_rfl,
 f6 := ⟨Tryz.f46.name, by decide, Tryz.func46.trans (congrArg some (by kernel_rfl))⟩,
 f14 := ⟨Tryz.f92.name, by decide, Tryz.func92.trans (congrArg some (by kernel_rfl))⟩,
 f15 := Tryz.func93.trans (congrArg some (by kernel_rfl)),
 f20 := ⟨Tryz.f135.name, by decide, Tryz.func135.trans (congrArg some (by kernel_rfl))⟩,
 f21 := ⟨Tryz.f136.name, by decide, Tryz.func136.trans (congrArg some (by kernel_rfl))⟩,
 f22 := ⟨Tryz.f137.name, by decide, Tryz.func137.trans (congrArg some (by kernel_rfl))⟩,
 f23 := ⟨Tryz.f138.name, by decide, Tryz.func138.trans (congrArg some (by kernel_rfl))⟩,
 f24 := ⟨Tryz.f139.name, by decide, Tryz.func139.trans (congrArg some (by kernel_rfl))⟩,
 f25 := ⟨Tryz.f140.name, by decide, Tryz.func140.trans (congrArg some (by kernel_rfl))⟩,
 f26 := ⟨Tryz.f141.name, by decide, Tryz.func141.trans (congrArg some (by kernel_rfl))⟩,
 f27 := ⟨Tryz.f142.name, by decide, Tryz.func142.trans (congrArg some (by kernel_rfl))⟩,
 f28 := Tryz.func143.trans (congrArg some (by kernel_rfl)),
 f29 := Tryz.func144.trans (congrArg some (by kernel_rfl)),
 f46 := ⟨Tryz.f173.name, by decide, Tryz.func173.trans (congrArg some (by kernel_rfl))⟩,
 f47 := Tryz.func174.trans (congrArg some (by kernel_rfl)),
 f48 := Tryz.func175.trans (congrArg some (by kernel_rfl)),
 f49 := ⟨Tryz.f176.name, by decide, Tryz.func176.trans (congrArg some (by kernel_rfl))⟩,
 f50 := ⟨Tryz.f177.name, by decide, Tryz.func177.trans (congrArg some (by kernel_rfl))⟩,
 f57 := ⟨Tryz.f183.name, by decide, Tryz.func183.trans (congrArg some (by kernel_rfl))⟩,
 t0 := Tryz.underlying0,
 a0 := Tryz.isAgg0,
 z0 := Tryz.sizeOf0,
 v0 := Tryz.zeroValue0,
 t3 := Tryz.underlying3,
 a3 := Tryz.isAgg3,
 z3 := Tryz.sizeOf3,
 v3 := Tryz.zeroValue3,
 t4 := Tryz.underlying4,
 a4 := Tryz.isAgg4,
 z4 := Tryz.sizeOf4,
 v4 := Tryz.zeroValue4,
 t5 := Tryz.underlying5,
 a5 := Tryz.isAgg5,
 z5 := Tryz.sizeOf5,
 v5 := Tryz.zeroValue5,
 t9 := Tryz.underlying9,
 a9 := Tryz.isAgg9,
 z9 := Tryz.sizeOf9,
 v9 := Tryz.zeroValue9,
 t22 := Tryz.underlying97,
 a22 := Tryz.isAgg97,
 z22 := Tryz.sizeOf97,
 v22 := Tryz.zeroValue97,
 t25 := Tryz.underlying108,
 a25 := Tryz.isAgg108,
 z25 := Tryz.sizeOf108,
 v25 := Tryz.zeroValue108,
 t39 := Tryz.underlying44,
 a39 := Tryz.isAgg44,
 z39 := Tryz.sizeOf44,
 v39 := Tryz.zeroValue44,
 t45 := Tryz.underlying219,
 a45 := Tryz.isAgg219,
 z45 := Tryz.sizeOf219,
 v45 := Tryz.zeroValue219,
 t46 := Tryz.underlying220,
 a46 := Tryz.isAgg220,
 z46 := Tryz.sizeOf220,
 v46 := Tryz.zeroValue220,
 t50 := Tryz.underlying158,
 a50 := Tryz.isAgg158,
 z50 := Tryz.sizeOf158,
 v50 := Tryz.zeroValue158,
 t53 := Tryz.underlying26,
 a53 := Tryz.isAgg26,
 z53 := Tryz.sizeOf26,
 v53 := Tryz.zeroValue26,
 t55 := Tryz.underlying24,
 a55 := Tryz.isAgg24,
 z55 := Tryz.sizeOf24,
 v55 := Tryz.zeroValue24,
 t66 := Tryz.underlying247,
 a66 := Tryz.isAgg247,
 z66 := Tryz.sizeOf247,
 v66 := Tryz.zeroValue247,
 t70 := Tryz.underlying251,
 a70 := Tryz.isAgg251,
 z70 := Tryz.sizeOf251,
 v70 := Tryz.zeroValue251,
 t76 := Tryz.underlying256,
 a76 := Tryz.isAgg256,
 z76 := Tryz.sizeOf256,
 v76 := Tryz.zeroValue256,
 t77 := Tryz.underlying257,
 a77 := Tryz.isAgg257,
 z77 := Tryz.sizeOf257,
 v77 := Tryz.zeroValue257 }
end
section
open Go.Shelf
def lysF_ren : Go.Shelf.Ren := ⟨fun | 6 => 82 | 14 => 131 | 15 => 93 | 20 => 164 | 21 => 165 | 22 => 166 | 23 => 167 | 24 => 168 | 25 => 169 | 26 => 170 | 27 => 171 | 28 => 143 | 29 => 144 | 46 => 179 | 47 => 174 | 48 => 175 | 49 => 180 | 50 => 181 | 57 => 184 | n => n, fun | 0 => 0 | 3 => 3 | 4 => 4 | 5 => 5 | 9 => 9 | 22 => 23 | 24 => 3 | 25 => 107 | 39 => 44 | 45 => 219 | 46 => 220 | 50 => 158 | 53 => 26 | 55 => 24 | 66 => 247 | 70 => 251 | 76 => 256 | 77 => 257 | n => n, fun n => n⟩
theorem lysF : SlLaysF.n6 Tryz.prog lysF_ren := {
 mixed := by kernel_rfl,
 f6 := ⟨Tryz.f82.name, by decide, Tryz.func82.trans (congrArg some (by kernel_rfl))⟩,
 f14 := ⟨Tryz.f131.name, by decide, Tryz.func131.trans (congrArg some (by kernel_rfl))⟩,
 f15 := Tryz.func93.trans (congrArg some (by kernel_rfl)),
 f20 := ⟨Tryz.f164.name, by decide, Tryz.func164.trans (congrArg some (by kernel_rfl))⟩,
 f21 := ⟨Tryz.f165.name, by decide, Tryz.func165.trans (congrArg some (by kernel_rfl))⟩,
 f22 := ⟨Tryz.f166.name, by decide, Tryz.func166.trans (congrArg some (by kernel_rfl))⟩,
 f23 := ⟨Tryz.f167.name, by decide, Tryz.func167.trans (congrArg some (by kernel_rfl))⟩,
 f24 := ⟨Tryz.f168.name, by decide, Tryz.func168.trans (congrArg some (by kernel_rfl))⟩,
 f25 := ⟨Tryz.f169.name, by decide, Tryz.func169.trans (congrArg some (by kernel_rfl))⟩,
 f26 := ⟨Tryz.f170.name, by decide, Tryz.func170.trans (congrArg some (by kernel_rfl))⟩,
 f27 := ⟨Tryz.f171.name, by decide, Tryz.func171.trans (congrArg some (by kernel_rfl))⟩,
 f28 := Tryz.func143.trans (congrArg some (by kernel_rfl)),
 f29 := Tryz.func144.trans (congrArg some (by kernel_rfl)),
 f46 := ⟨Tryz.f179.name, by decide, Tryz.func179.trans (congrArg some (by kernel_rfl))⟩,
 f47 := Tryz.func174.trans (congrArg some (by kernel_rfl)),
 f48 := Tryz.func175.trans (congrArg some (by kernel_rfl)),
 f49 := ⟨Tryz.f180.name, by decide, Tryz.func180.trans (congrArg some (by kernel_rfl))⟩,
 f50 := ⟨Tryz.f181.name, by decide, Tryz.func181.trans (congrArg some (by kernel_rfl))⟩,
 f57 := ⟨Tryz.f184.name, by decide, Tryz.func184.trans (congrArg some (by kernel_rfl))⟩,
 t0 := Tryz.underlying0,
 a0 := Tryz.isAgg0,
 z0 := Tryz.sizeOf0,
 v0 := Tryz.zeroValue0,
 t3 := Tryz.underlying3,
 a3 := Tryz.isAgg3,
 z3 := Tryz.sizeOf3,
 v3 := Tryz.zeroValue3,
 t4 := Tryz.underlying4,
 a4 := Tryz.isAgg4,
 z4 := Tryz.sizeOf4,
 v4 := Tryz.zeroValue4,
 t5 := Tryz.underlying5,
 a5 := Tryz.isAgg5,
 z5 := Tryz.sizeOf5,
 v5 := Tryz.zeroValue5,
 t9 := Tryz.underlying9,
 a9 := Tryz.isAgg9,
 z9 := Tryz.sizeOf9,
 v9 := Tryz.zeroValue9,
 t22 := Tryz.underlying23,
 a22 := Tryz.isAgg23,
 z22 := Tryz.sizeOf23,
 v22 := Tryz.zeroValue23,
 a24 := Tryz.isAgg3,
 z24 := Tryz.sizeOf3,
 t25 := Tryz.underlying107,
 a25 := Tryz.isAgg107,
 z25 := Tryz.sizeOf107,
 v25 := Tryz.zeroValue107,
 t39 := Tryz.underlying44,
 a39 := Tryz.isAgg44,
 z39 := Tryz.sizeOf44,
 v39 := Tryz.zeroValue44,
 t45 := Tryz.underlying219,
 a45 := Tryz.isAgg219,
 z45 := Tryz.sizeOf219,
 v45 := Tryz.zeroValue219,
 t46 := Tryz.underlying220,
 a46 := Tryz.isAgg220,
 z46 := Tryz.sizeOf220,
 v46 := Tryz.zeroValue220,
 t50 := Tryz.underlying158,
 a50 := Tryz.isAgg158,
 z50 := Tryz.sizeOf158,
 v50 := Tryz.zeroValue158,
 t53 := Tryz.underlying26,
 a53 := Tryz.isAgg26,
 z53 := Tryz.sizeOf26,
 v53 := Tryz.zeroValue26,
 t55 := Tryz.underlying24,
 a55 := Tryz.isAgg24,
 z55 := Tryz.sizeOf24,
 v55 := Tryz.zeroValue24,
 t66 := Tryz.underlying247,
 a66 := Tryz.isAgg247,
 z66 := Tryz.sizeOf247,
 v66 := Tryz.zeroValue247,
 t70 := Tryz.underlying251,
 a70 := Tryz.isAgg251,
 z70 := Tryz.sizeOf251,
 v70 := Tryz.zeroValue251,
 t76 := Tryz.underlying256,
 a76 := Tryz.isAgg256,
 z76 := Tryz.sizeOf256,
 v76 := Tryz.zeroValue256,
 t77 := Tryz.underlying257,
 a77 := Tryz.isAgg257,
 z77 := Tryz.sizeOf257,
 v77 := Tryz.zeroValue257 }
end
section
open Go.Shelf
def lysZ_ren : Go.Shelf.Ren := ⟨fun | 6 => 82 | 14 => 131 | 15 => 93 | 20 => 164 | 21 => 165 | 22 => 166 | 23 => 167 | 24 => 168 | 25 => 169 | 26 => 170 | 27 => 171 | 28 => 143 | 29 => 144 | 46 => 179 | 47 => 174 | 48 => 175 | 49 => 180 | 50 => 181 | 57 => 184 | n => n, fun | 0 => 0 | 3 => 3 | 4 => 4 | 5 => 5 | 9 => 9 | 22 => 23 | 24 => 3 | 25 => 107 | 39 => 44 | 45 => 219 | 46 => 220 | 50 => 158 | 53 => 26 | 55 => 24 | 66 => 247 | 70 => 251 | 76 => 256 | 77 => 257 | n => n, fun n => n⟩
theorem lysZ : SlLaysF0.n6 Tryz.prog lysZ_ren := {
 mixed := by kernel_rfl,
 f6 := ⟨Tryz.f82.name, by decide, Tryz.func82.trans (congrArg some (by kernel_rfl))⟩,
 f14 := ⟨Tryz.f131.name, by decide, Tryz.func131.trans (congrArg some (by kernel_rfl))⟩,
 f15 := Tryz.func93.trans (congrArg some (by kernel_rfl)),
 f20 := ⟨Tryz.f164.name, by decide, Tryz.func164.trans (congrArg some (by kernel_rfl))⟩,
 f21 := ⟨Tryz.f165.name, by decide, Tryz.func165.trans (congrArg some (by kernel_rfl))⟩,
 f22 := ⟨Tryz.f166.name, by decide, Tryz.func166.trans (congrArg some (by kernel_rfl))⟩,
 f23 := ⟨Tryz.f167.name, by decide, Tryz.func167.trans (congrArg some (by kernel_rfl))⟩,
 f24 := ⟨Tryz.f168.name, by decide, Tryz.func168.trans (congrArg some (by kernel_rfl))⟩,
 f25 := ⟨Tryz.f169.name, by decide, Tryz.func169.trans (congrArg some (by kernel_rfl))⟩,
 f26 := ⟨Tryz.f170.name, by decide, Tryz.func170.trans (congrArg some (by kernel_rfl))⟩,
 f27 := ⟨Tryz.f171.name, by decide, Tryz.func171.trans (congrArg some (by kernel_rfl))⟩,
 f28 := Tryz.func143.trans (congrArg some (by kernel_rfl)),
 f29 := Tryz.func144.trans (congrArg some (by kernel_rfl)),
 f46 := ⟨Tryz.f179.name, by decide, Tryz.func179.trans (congrArg some (by kernel_rfl))⟩,
 f47 := Tryz.func174.trans (congrArg some (by kernel_rfl)),
 f48 := Tryz.func175.trans (congrArg some (by kernel_rfl)),
 f49 := ⟨Tryz.f180.name, by decide, Tryz.func180.trans (congrArg some (by kernel_rfl))⟩,
 f50 := ⟨Tryz.f181.name, by decide, Tryz.func181.trans (congrArg some (by kernel_rfl))⟩,
 f57 := ⟨Tryz.f184.name, by decide, Tryz.func184.trans (congrArg some (by kernel_rfl))⟩,
 t0 := Tryz.underlying0,
 a0 := Tryz.isAgg0,
 z0 := Tryz.sizeOf0,
 v0 := Tryz.zeroValue0,
 t3 := Tryz.underlying3,
 a3 := Tryz.isAgg3,
 z3 := Tryz.sizeOf3,
 v3 := Tryz.zeroValue3,
 t4 := Tryz.underlying4,
 a4 := Tryz.isAgg4,
 z4 := Tryz.sizeOf4,
 v4 := Tryz.zeroValue4,
 t5 := Tryz.underlying5,
 a5 := Tryz.isAgg5,
 z5 := Tryz.sizeOf5,
 v5 := Tryz.zeroValue5,
 t9 := Tryz.underlying9,
 a9 := Tryz.isAgg9,
 z9 := Tryz.sizeOf9,
 v9 := Tryz.zeroValue9,
 t22 := Tryz.underlying23,
 a22 := Tryz.isAgg23,
 z22 := Tryz.sizeOf23,
 v22 := Tryz.zeroValue23,
 t25 := Tryz.underlying107,
 a25 := Tryz.isAgg107,
 z25 := Tryz.sizeOf107,
 v25 := Tryz.zeroValue107,
 t39 := Tryz.underlying44,
 a39 := Tryz.isAgg44,
 z39 := Tryz.sizeOf44,
 v39 := Tryz.zeroValue44,
 t45 := Tryz.underlying219,
 a45 := Tryz.isAgg219,
 z45 := Tryz.sizeOf219,
 v45 := Tryz.zeroValue219,
 t46 := Tryz.underlying220,
 a46 := Tryz.isAgg220,
 z46 := Tryz.sizeOf220,
 v46 := Tryz.zeroValue220,
 t50 := Tryz.underlying158,
 a50 := Tryz.isAgg158,
 z50 := Tryz.sizeOf158,
 v50 := Tryz.zeroValue158,
 t53 := Tryz.underlying26,
 a53 := Tryz.isAgg26,
 z53 := Tryz.sizeOf26,
 v53 := Tryz.zeroValue26,
 t55 := Tryz.underlying24,
 a55 := Tryz.isAgg24,
 z55 := Tryz.sizeOf24,
 v55 := Tryz.zeroValue24,
 t66 := Tryz.underlying247,
 a66 := Tryz.isAgg247,
 z66 := Tryz.sizeOf247,
 v66 := Tryz.zeroValue247,
 t70 := Tryz.underlying251,
 a70 := Tryz.isAgg251,
 z70 := Tryz.sizeOf251,
 v70 := Tryz.zeroValue251,
 t76 := Tryz.underlying256,
 a76 := Tryz.isAgg256,
 z76 := Tryz.sizeOf256,
 v76 := Tryz.zeroValue256,
 t77 := Tryz.underlying257,
 a77 := Tryz.isAgg257,
 z77 := Tryz.sizeOf257,
 v77 := Tryz.zeroValue257 }
end
section
open Go.Shelf Go.RowKit Go.Lib Go.Sort
theorem ivs_map (l : List Int) : ivs l = l.map (fun v => Value.int .i64 v) := by
 unfold ivs
 induction l with
 | nil => rfl
 | cons a r ih => rw [List.flatMap_cons, ih]; rfl
theorem lateC_swo (Q : List Qp) : Go.Sort.SWO (ltOf (lateC Q)) := by
 refine ⟨fun x => ?_, fun x y z h1 h2 => ?_, fun x y z h1 h2 => ?_⟩
 ·simp only [ltOf, decide_eq_false_iff_not, lateC, lexI_lt]; omega
 ·simp only [ltOf, decide_eq_true_eq, lateC, lexI_lt] at *; omega
 ·simp only [ltOf, decide_eq_false_iff_not, lateC, lexI_lt] at *; omega
theorem psort_ok {m : PM} {s : PS} (h : PIs m s) (b2 : Nat) (l : List Int) (hl : l.length ≤ 1000000) (o : Option Nat) (c : Nat) (tl : List Value) (own : Own o l.length c 1 (ivs l) tl) : Spec Tryz.prog 82 [slV o l.length c, .func (.func 83) #[] #[.pointer (some ⟨b2, 0, none⟩)]] (⟨o, cl (ivs l ++ tl) 3⟩ :: [⟨some b2, cl [ptrP m.p] 79⟩, poP m s, poW m])
  (fun r H' => ∃ l' : List Int, r = .tuple #[] ∧ l'.Perm l ∧ l'.Pairwise (fun a b => ¬ lateC s.Q b a < 0) ∧ H' = ⟨o, cl (ivs l' ++ tl) 3⟩ :: [⟨some b2, cl [ptrP m.p] 79⟩, poP m s, poW m]) := by
 by_cases h0 : l = []
 ·subst h0
  have hn := sort_none lysZ 82 rfl (Enters.mk Tryz.func82 rfl rfl) o c (.func (.func 83) #[] #[.pointer (some ⟨b2, 0, none⟩)])
  exact (hn.fr (⟨o, cl (ivs [] ++ tl) 3⟩ :: [⟨some b2, cl [ptrP m.p] 79⟩, poP m s, poW m])).mono fun r H' ⟨H1, ⟨e1, e2⟩, e3⟩ => ⟨[], e1, .refl _, .nil, by rw [e3, e2]; rfl⟩
 ·obtain ⟨b, rfl⟩ := own.some_of (List.length_pos_iff.2 h0)
  have hs := sort_ok (enc := fun v : Int => Value.int .i64 v) lysF 82 rfl (fun _ => rfl) (lateC s.Q) (lateC_swo s.Q) 83 [.pointer (some ⟨b2, 0, none⟩)] [⟨some b2, cl [ptrP m.p] 79⟩, poP m s, poW m] (fun x y => padv2_ok h b2 x y) (Enters.mk Tryz.func82 rfl rfl) b l.length c 3 l tl rfl (by omega)
  rw [← ivs_map] at hs
  refine hs.mono fun r H' ⟨d', e1, e2, e3, e4⟩ => ⟨d', e1, e2, e3.imp fun {a b} h => by simpa only [ltOf, decide_eq_false_iff_not] using h, by rw [ivs_map]; exact e4⟩
end
section
open Go.Shelf Go.RowKit Go.Lib Go.Sort
def sesK (S : List Ss) (k : Int) : Ss := (S.find? (fun s => decide (s.num = k))).getD ⟨0, ByteArray.empty, 0, 0, 0, 0, 0, 0, 0, 0⟩
theorem sesK_at {S : List Ss} (hn : (S.map (·.num)).Nodup) {s : Ss} (hs : s ∈ S) : sesK S s.num = s := by unfold sesK; rw [find_num hn hs]; rfl
theorem plW_at {S : List Ss} (hn : (S.map (·.num)).Nodup) {s : Ss} (hs : s ∈ S) : plW (sesM S) s.num = s.p :=
 getT_in (by rw [sesM_keys]; exact hn) (List.mem_map_of_mem (f := fun s : Ss => (s.num, s.p)) hs) 0
def tilC (S : List Ss) (a b : Int) : Int := lexI ((sesK S a).til : Int) ((sesK S b).til : Int) a b
def lateS (S : List Ss) (now : Nat) (k : Int) : Bool := decide ((sesK S k).st ≠ 1 ∨ now < (sesK S k).til)
theorem xcmp_ok {S : List Ss} {a b : Ss} (ha : a ∈ S) (hb : b ∈ S) : Spec Tryz.prog 47 [ptrS a.p, ptrS b.p] (ssH S) (fun r H' => r = .int .i64 (lexI (a.til : Int) (b.til : Int) a.num b.num) ∧ H' = ssH S) := by
 have hma : seE a ∈ ssH S := List.mem_map_of_mem ha
 have hmb : seE b ∈ ssH S := List.mem_map_of_mem hb
 refine Spec.of (E := [(0, ptrS a.p), (1, ptrS b.p)]) Tryz.func47 rfl (by kernel_rfl) Tryz.ntmps47 rfl rfl (fun w => ?_)
 refine WCr (WLa Z (WL_nil (WQ_code (WC_seq (WC_draw _ [(0, true), (1, true), (2, true), (3, true), (4, true), (5, true), (6, true), (7, true), (8, true), (9, true), (10, true), (11, true), (12, true), (13, true), (14, true), (15, true), (16, true), (17, true), (18, false), (19, false), (20, true)] followsMixed Z Z (by kernel_rfl) .all ?_)))))
 refine WMa Z (WMa Z (WMf Z fa90_5 (WMv Z (R_load (v := .int .u64 (a.til : Int)) Z sc25 Z (by first | exact hma | exact List.mem_cons_of_mem _ hma | exact List.mem_append_left _ hma | exact List.mem_append_right _ hma) Z) ?_)))
 refine WMa Z (WMa Z (WMf Z fa90_5 (WMv Z (R_load (v := .int .u64 (b.til : Int)) Z sc25 Z (by first | exact hmb | exact List.mem_cons_of_mem _ hmb | exact List.mem_append_left _ hmb | exact List.mem_append_right _ hmb) Z) ?_)))
 refine WM_call Z (Spec.quiet (cmpt_ok _ _)) Z Z Z Z Z Z Z pqD ?_
 refine WMa Z (WMa Z (WMf Z fa90_0 (WMv Z (R_load (v := .int .i64 a.num) Z sc3 Z (by first | exact hma | exact List.mem_cons_of_mem _ hma | exact List.mem_append_left _ hma | exact List.mem_append_right _ hma) Z) ?_)))
 refine WMa Z (WMa Z (WMf Z fa90_0 (WMv Z (R_load (v := .int .i64 b.num) Z sc3 Z (by first | exact hmb | exact List.mem_cons_of_mem _ hmb | exact List.mem_append_left _ hmb | exact List.mem_append_right _ hmb) Z) ?_)))
 refine WM_call Z (Spec.quiet (cmpi_ok _ _)) Z Z Z Z Z Z Z pqD ?_
 refine WMd Z (D_buildSlice Z si23 Z Z Z) ?_
 rintro _ _ ⟨b1, rfl, rfl⟩
 refine ⟨⟨_, pqD⟩, ?_⟩
 refine WMd Z (D_call (cor_ok [cmpI (a.til : Int) (b.til : Int), cmpI a.num b.num] (nb Z) _ _ [] (own_litP _ _ (nb Z))) Z Z Z Z pqD) ?_
 rintro _ _ ⟨_, ⟨rfl, rfl⟩, rfl⟩
 refine ⟨⟨_, pqD⟩, ?_⟩
 refine WMa Z (WM_nil (WQ_code (WC_ret ?_)))
 refine WQ1 Z (by
   exact ⟨rfl, rfl⟩) pqD
theorem xlat_ok {S : List Ss} {s : Ss} (hs : s ∈ S) (b3 now : Nat) : Spec Tryz.prog 45 [ptrS s.p, .pointer (some ⟨b3, 0, none⟩)] (⟨some b3, cl [.int .u64 (now : Int)] 25⟩ :: ssH S) (fun r H' => r = .bool (decide (s.st ≠ 1 ∨ now < s.til)) ∧ ⟨some b3, cl [.int .u64 (now : Int)] 25⟩ :: ssH S = H') := by
 have hms : seE s ∈ ssH S := List.mem_map_of_mem hs
 refine Spec.of (E := [(0, ptrS s.p), (1, .pointer (some ⟨b3, 0, none⟩))]) Tryz.func45 rfl (by kernel_rfl) Tryz.ntmps45 rfl rfl (fun w => ?_)
 refine WCr (WLa Z (WL_nil (WQ_code (WC_seq (WC_draw _ [(0, true), (1, true), (2, true), (3, true), (4, true), (5, true), (6, true), (7, true), (8, true), (9, true), (10, true), (11, true), (12, true), (13, true)] followsMixed Z Z (by kernel_rfl) .all ?_)))))
 refine WMa Z (WMa Z (WMf Z fa90_4 (WMv Z (R_load (v := .int .i64 s.st) Z sc49 Z (by first | exact hms | exact List.mem_cons_of_mem _ hms | exact List.mem_append_left _ hms | exact List.mem_append_right _ hms) Z) ?_)))
 refine WMa Z (WMa Z ?_)
 refine WM_splitD (s := 9) Z (fun c1 => ?_) (fun c1 => ?_)
 ·have hg := c1
  refine WMa Z (WMa Z (WMa Z (WMa Z (WMa Z (WMa Z (WMa Z (WMa Z (WM_nil (WQ_code (WC_ret ?_))))))))))
  refine WQ1 Z (by
    first | exact ⟨congrArg Value.bool (decide_eq_decide.2 (by omega)), rfl⟩ | exact ⟨congrArg Value.bool (decide_eq_true (by omega)).symm, rfl⟩) pqD
 ·have hg := c1
  refine WMa Z (WMa Z (WMf Z fa90_5 (WMv Z (R_load (v := .int .u64 (s.til : Int)) Z sc25 Z (by first | exact hms | exact List.mem_cons_of_mem _ hms | exact List.mem_append_left _ hms | exact List.mem_append_right _ hms) Z) ?_)))
  refine WMl Z sc25 mmD Z (WMa Z (WMa Z (WMa Z (WM_nil (WQ_code (WC_ret ?_))))))
  refine WQ1 Z (by
    first | exact ⟨congrArg Value.bool (decide_eq_decide.2 (by omega)), rfl⟩ | exact ⟨congrArg Value.bool (decide_eq_true (by omega)).symm, rfl⟩) pqD
theorem ivsP_map (pl : Int → Nat) (l : List Int) : ivsP pl l = l.map (fun v => ptrS (pl v)) := by
 unfold ivsP
 induction l with
 | nil => rfl
 | cons a r ih => rw [List.flatMap_cons, ih]; rfl
theorem xsort_ok {S : List Ss} (hn : (S.map (·.num)).Nodup) (l : List Int) (hl : l.length ≤ 1000000) (hm : ∀ k ∈ l, k ∈ S.map (·.num)) (o : Option Nat) (c : Nat) (tl : List Value) (own : Own o l.length c 1 (ivsP (plW (sesM S)) l) tl) :
  Spec Tryz.prog 46 [slV o l.length c, .func (.func 47) #[] #[]] (⟨o, cl (ivsP (plW (sesM S)) l ++ tl) 87⟩ :: ssH S)
  (fun r H' => ∃ l' : List Int, r = .tuple #[] ∧ l'.Perm l ∧ l'.Pairwise (fun a b => ¬ tilC S b a < 0) ∧ H' = ⟨o, cl (ivsP (plW (sesM S)) l' ++ tl) 87⟩ :: ssH S) := by
 by_cases h0 : l = []
 ·subst h0
  have hn := sort_none lysQ 46 rfl (Enters.mk Tryz.func46 rfl rfl) o c (.func (.func 47) #[] #[])
  exact (hn.fr (⟨o, cl (ivsP (plW (sesM S)) [] ++ tl) 87⟩ :: ssH S)).mono fun r H' ⟨H1, ⟨e1, e2⟩, e3⟩ => ⟨[], e1, .refl _, .nil, by rw [e3, e2]; rfl⟩
 ·obtain ⟨b, rfl⟩ := own.some_of (List.length_pos_iff.2 h0)
  obtain ⟨k0, hk0⟩ := List.exists_mem_of_ne_nil _ h0
  haveI : Inhabited {k : Int // k ∈ l} := ⟨⟨k0, hk0⟩⟩
  have hswo : Go.Sort.SWO (ltOf (fun x y : {k : Int // k ∈ l} => tilC S x.1 y.1)) := by
   refine ⟨fun x => ?_, fun x y z h1 h2 => ?_, fun x y z h1 h2 => ?_⟩
   ·simp only [ltOf, decide_eq_false_iff_not, tilC, lexI_lt]; omega
   ·simp only [ltOf, decide_eq_true_eq, tilC, lexI_lt] at *; omega
   ·simp only [ltOf, decide_eq_false_iff_not, tilC, lexI_lt] at *; omega
  have hs := sort_ok (enc := fun v : {k : Int // k ∈ l} => ptrS (plW (sesM S) v.1)) lysP 46 rfl (fun _ => rfl) (fun x y : {k : Int // k ∈ l} => tilC S x.1 y.1) hswo 47 [] (ssH S) (fun x y => by
   obtain ⟨sa, ha, ea⟩ := List.mem_map.1 (hm x.1 x.2)
   obtain ⟨sb, hb, eb⟩ := List.mem_map.1 (hm y.1 y.2)
   have := xcmp_ok ha hb
   show Spec Tryz.prog 47 [ptrS (plW (sesM S) x.1), ptrS (plW (sesM S) y.1)] (ssH S) (fun r H' => r = .int .i64 (lexI _ _ x.1 y.1) ∧ H' = ssH S)
   rw [← ea, ← eb, plW_at hn ha, plW_at hn hb, sesK_at hn ha, sesK_at hn hb]
   exact this) (Enters.mk Tryz.func46 rfl rfl) b l.length c 87 l.attach tl List.length_attach (by omega)
  have hat : l.attach.map (fun v => ptrS (plW (sesM S) v.1)) = ivsP (plW (sesM S)) l := by
   rw [ivsP_map]
   conv => rhs; rw [← List.attach_map_subtype_val l, List.map_map]
   rfl
  rw [hat] at hs
  refine hs.mono fun r H' ⟨d', e1, e2, e3, e4⟩ => ⟨d'.map Subtype.val, e1, ?_, ?_, ?_⟩
  ·have := e2.map Subtype.val
   rwa [List.attach_map_subtype_val] at this
  ·rw [List.pairwise_map]
   exact e3.imp fun {a b} h => by simpa only [ltOf, decide_eq_false_iff_not] using h
  ·rw [e4, ivsP_map, List.map_map]; rfl
theorem due_eq {x : PX} (hn : (x.S.map (·.num)).Nodup) {xs ys : List Int} (h1 : xs.Perm ((sesM x.S).map (·.1))) (h2 : ys.Perm (xs.filter (fun v => !lateS x.S x.now v))) (h3 : ys.Pairwise (fun a b => ¬ tilC x.S b a < 0)) : ys = x.due.map (·.num) := by
 have hp : ys.Perm (x.due.map (·.num)) := by
  refine h2.trans ((h1.filter _).trans (List.Perm.trans ?_ ((due_perm x).map _).symm))
  rw [sesM_keys, List.filter_map]
  refine List.Perm.of_eq (congrArg _ ?_)
  refine List.filter_congr fun s hs => ?_
  show (!lateS x.S x.now s.num) = _
  unfold lateS
  rw [sesK_at hn hs, ← decide_not]
  exact decide_eq_decide.2 (by omega)
 refine srt_uniq (lt := fun a b => tilC x.S a b < 0) hp h3 ?_
 rw [List.pairwise_map]
 refine (pair_mem (due_srt hn)).imp fun {a b} ⟨ha, hb, hab⟩ => ?_
 show tilC x.S a.num b.num < 0
 unfold tilC
 rw [lexI_lt, sesK_at hn (due_mem ha).1, sesK_at hn (due_mem hb).1]
 have h9 : a.til < b.til ∨ (a.til = b.til ∧ a.num < b.num) := hab
 omega
end
structure AvX where
 k : Nat
 m : XM
 x : PX
 N : Nat
def evA (now : Nat) (si : PS) : Nat := (si.advance now).E.length
def evS (now : Nat) (P : List PS) : Nat := (P.map (evA now)).sum
theorem dropX {α : Type} {l : List α} {j : Nat} {x : α} (h : l[j]? = some x) : l.drop j = x :: l.drop (j + 1) := by
 obtain ⟨h1, rfl⟩ := List.getElem?_eq_some_iff.1 h
 exact List.drop_eq_getElem_cons h1
theorem evS_drop {now : Nat} {P : List PS} {k : Nat} {si : PS} (h : P[k]? = some si) : evS now (P.drop k) = (si.advance now).E.length + evS now (P.drop (k + 1)) := by
 unfold evS; rw [dropX h, List.map_cons, List.sum_cons]; rfl
theorem nums_len {S : List Ss} (hn : (S.map (·.num)).Nodup) (h : ∀ s ∈ S, 0 ≤ s.num ∧ s.num ≤ 100) : S.length ≤ 101 := by
 have := pigeonP (S.map (·.num)) ((List.range 101).map (fun i : Nat => (i : Int))) hn fun k hk => by
  obtain ⟨s, hs, rfl⟩ := List.mem_map.1 hk
  have := h s hs
  exact List.mem_map.2 ⟨s.num.toNat, List.mem_range.2 (by omega), by omega⟩
 rw [List.length_map, List.length_map, List.length_range] at this
 exact this
theorem xlatK_ok {S : List Ss} (hn : (S.map (·.num)).Nodup) {v : Int} (hv : v ∈ S.map (·.num)) (b3 now : Nat) : Spec Tryz.prog 45 [ptrS (plW (sesM S) v), .pointer (some ⟨b3, 0, none⟩)] (⟨some b3, cl [.int .u64 (now : Int)] 25⟩ :: ssH S) (fun r H' => r = .bool (lateS S now v) ∧ ⟨some b3, cl [.int .u64 (now : Int)] 25⟩ :: ssH S = H') := by
 obtain ⟨s, hs, rfl⟩ := List.mem_map.1 hv
 unfold lateS
 rw [plW_at hn hs, sesK_at hn hs]
 exact xlat_ok hs b3 now
theorem xf_fail {N : Nat} {m : XM} {x : PX} (h : PXIs N m x) (hE : x.E.length ≤ 1000000) (hn : (x.S.map (·.num)).Nodup) {A B : List Ss} {s : Ss} (hS : x.S = A ++ s :: B) {now : Nat} (hdl : s.dl ≤ now) :
  Spec Tryz.prog 51 [ptrP m.p, ptrS s.p, .int .i64 12] (pxH m x) (fun r H' => ∃ m', r = .tuple #[] ∧ H' = pxH m' (x.dueF now s) ∧ PXIs (N + 1) m' (x.dueF now s) ∧ m'.p = m.p) := by
 have hX : x.dueF now s = { x.tell ⟨3, s.num, -1, -1, 12⟩ with S := A ++ B } := by unfold PX.dueF; rw [if_pos hdl, filt_num hS hn]
 rw [hX]
 refine (xfail_all h hE hS (ses_del hS hn) 12).mono ?_
 rintro r H' ⟨m', h1, h2, h3, h4, _⟩
 exact ⟨m', h1, h2, h3.le (Nat.le_succ N), h4⟩
theorem xf_att {N : Nat} {m : XM} {x : PX} (h : PXIs N m x) (hN : N ≤ 9000) (hE : x.E.length ≤ 1000000) (hg : PXG x) {b : Nat} (hB : PXB b x) (hb : b < 1000000000000) {A B : List Ss} {s : Ss} (hS : x.S = A ++ s :: B) {now : Nat} (hdl : ¬ s.dl ≤ now) :
  Spec Tryz.prog 33 [ptrP m.p, ptrS s.p] (pxH m x) (fun r H' => ∃ m', r = .tuple #[] ∧ H' = pxH m' (x.dueF now s) ∧ PXIs (N + 1) m' (x.dueF now s) ∧ m'.p = m.p) := by
 have hs : s ∈ x.S := by rw [hS]; exact List.mem_append_right _ (List.mem_cons_self ..)
 have hX : x.dueF now s = x.att A s B := by unfold PX.dueF; rw [if_neg hdl, attF_eq hS hg.nd]
 have hk := hg.ks s hs
 rw [hX]
 exact xattempt_ok h hN hE hS hk.1 (by omega) hg.bl (fun si hi => by have := hB si hi; rw [this.1]; exact ⟨Nat.zero_le _, by omega⟩) (ses_del hS hg.nd)
theorem foldl_next {α β : Type} {f : β → α → β} {l : List α} {k : Nat} {x : α} (h : l[k]? = some x) (b : β) : (l.take (k + 1)).foldl f b = f ((l.take k).foldl f b) x := by rw [take_next h, List.foldl_append]; rfl
theorem drain_E0 {x : PX} {i : Nat} {si : PS} (hi : x.P[i]? = some si) : ∀ (n : Nat) (x : PX) (si : PS), x.P[i]? = some si → si.E.length ≤ n → ∃ s', (PX.drainL i n x).P[i]? = some s' ∧ s' = { si with E := [] }
 | 0, x, si, h, hl => ⟨si, h, by have := List.length_eq_zero_iff.1 (Nat.le_zero.1 hl); show si = _; rw [← this]⟩
 | n + 1, x, si, h, hl => by
  unfold PX.drainL
  rw [h]
  dsimp only
  cases hE : si.E with
  | nil => exact ⟨si, h, by show si = _; rw [← hE]⟩
  | cons e r =>
   dsimp only
   have h2 : ((x.nxP i si).drE i e).P[i]? = some si.nx := by rw [(drE_P i _ e).1]; exact List.getElem?_set_self (List.getElem?_eq_some_iff.1 h).1
   have hEn : si.nx.E = r := by unfold PS.nx; rw [hE]; rfl
   obtain ⟨s', q1, q2⟩ := drain_E0 (x := (x.nxP i si).drE i e) h2 n _ si.nx h2 (by rw [hEn]; rw [hE, List.length_cons] at hl; omega)
   exact ⟨s', q1, q2⟩
theorem drain_dry {x : PX} {i : Nat} {si : PS} (hi : x.P[i]? = some si) : (x.drain i).P = x.P.set i { si with E := [] } := by
 apply List.ext_getElem?
 intro j
 by_cases e : i = j
 ·subst e
  rw [List.getElem?_set_self (List.getElem?_eq_some_iff.1 hi).1]
  obtain ⟨s', q1, q2⟩ := drain_E0 hi si.E.length x si hi (Nat.le_refl _)
  have : x.drain i = PX.drainL i si.E.length x := by unfold PX.drain; rw [hi]
  rw [this, q1, q2]
 ·rw [List.getElem?_set_ne e, drain_other (fun q => e q.symm)]
theorem advK_P (x : PX) (now : Nat) : ∀ k, (x.advK now k).P = (x.P.take k).map (fun si => { si.advance now with E := [] }) ++ x.P.drop k
 | 0 => by simp [PX.advK]
 | k + 1 => by
  have ih := advK_P x now k
  rw [advK_next]
  unfold PX.advP
  cases hi : (x.advK now k).P[k]? with
  | none =>
   have hl : x.P.length ≤ k := by rw [← (advK_facts x now k).2.2.1]; exact List.getElem?_eq_none_iff.1 hi
   dsimp only
   rw [ih, List.take_of_length_le hl, List.take_of_length_le (by omega), List.drop_of_length_le hl, List.drop_of_length_le (by omega)]
  | some si =>
   have hx : x.P[k]? = some si := by rw [← (advK_facts x now k).2.2.2 k (Nat.le_refl _)]; exact hi
   have hlt := (List.getElem?_eq_some_iff.1 hx).1
   dsimp only
   rw [drain_dry (x := { x.advK now k with P := (x.advK now k).P.set k (si.advance now) }) (si := si.advance now) (List.getElem?_set_self (List.getElem?_eq_some_iff.1 hi).1)]
   show ((x.advK now k).P.set k _).set k _ = _
   rw [List.set_set, ih, take_next hx, List.map_append, dropX hx, List.set_append_right _ _ (by simp; omega)]
   simp [Nat.min_eq_left (Nat.le_of_lt hlt)]
theorem adv_n (si : PS) (hp : PH si) (now : Nat) : (si.advance now).n ≤ si.n + 1 := by
 by_cases hm : si.may true now = 0
 ·exact (adv_R hp hm).n
 ·rw [adv_no hm]; exact Nat.le_succ _
theorem advK_B {x : PX} (h : PXG x) {b : Nat} (hB : PXB b x) (now k : Nat) : PXB (b + 1) (x.advK now k) := fun si hi => by
 rw [advK_P] at hi
 rcases List.mem_append.1 hi with hi | hi
 ·obtain ⟨s0, h0, rfl⟩ := List.mem_map.1 hi
  have h1 := List.mem_of_mem_take h0
  obtain ⟨j, hj⟩ := List.mem_iff_getElem?.1 h1
  have := hB s0 h1
  have := adv_n s0 (h.po j s0 hj).ph now
  exact ⟨rfl, by show (s0.advance now).n ≤ _; omega⟩
 ·have := hB si (List.mem_of_mem_drop hi)
  exact ⟨this.1, by omega⟩
theorem delf_none (l : List Int) (o : Option Nat) (c : Nat) (tl : List Value) (own : Own o l.length c 1 (ivs l) tl) (gf : Nat) (ca : List Value) (Hc : Heap) (p : Int → Bool) (hf : ∀ v ∈ l, Spec Tryz.prog gf (.int .i64 v :: ca) Hc (fun r H' => r = .bool (p v) ∧ Hc = H')) (hb : l.length ≤ 1000000) (hn : ∀ v ∈ l, p v = false) : Spec Tryz.prog 77 [slV o l.length c, .func (.func gf) #[] ca.toArray] (⟨o, cl (ivs l ++ tl) 3⟩ :: Hc) (fun r H' => ∃ (n2 : Nat) (tl2 : List Value), n2 = (l.filter (fun v => !p v)).length ∧ r = slV o n2 c ∧ Own o n2 c 1 (ivs (l.filter (fun v => !p v))) tl2 ∧ H' = ⟨o, cl (ivs (l.filter (fun v => !p v)) ++ tl2) 3⟩ :: Hc) := by
 have hidx := idxF_none hn
 have hfl : l.filter (fun v => !p v) = l := List.filter_eq_self.2 fun v hv => by rw [hn v hv]; rfl
 rw [hfl]
 refine Spec.of (E := [(0, slV o l.length c), (1, .func (.func gf) #[] ca.toArray)]) Tryz.func77 rfl (by kernel_rfl) Tryz.ntmps77 rfl rfl (fun w => ?_)
 refine WCr (WLa Z (WL_nil (WQ_code (WCr (WLa Z (WLa Z (WLq Z (idxf_ok l o c tl own gf ca Hc p hf hb) Z pqY ?_)))))))
 refine WLa Z (WL_nil (WQ_code (WC_seq (WCr (WLa Z (WLa Z (WL_nil (WQ_code (WC_dT Z (by exact hidx) ?_)))))))))
 refine WCr (WLa Z (WLa Z (WL_nil (WQ_code (WC_ret ?_)))))
 refine WQ1 Z (by
   exact ⟨_, tl, rfl, rfl, own, rfl⟩) pqY
theorem delf_some (l : List Int) (o : Option Nat) (c : Nat) (tl : List Value) (own : Own o l.length c 1 (ivs l) tl) (gf : Nat) (ca : List Value) (Hc : Heap) (p : Int → Bool) (hf : ∀ v ∈ l, Spec Tryz.prog gf (.int .i64 v :: ca) Hc (fun r H' => r = .bool (p v) ∧ Hc = H')) (hb : l.length ≤ 1000000) {k : Nat} {x0 : Int} (h0 : ∀ v ∈ l.take k, p v = false) (hx0 : l[k]? = some x0) (hp0 : p x0 = true) : Spec Tryz.prog 77 [slV o l.length c, .func (.func gf) #[] ca.toArray] (⟨o, cl (ivs l ++ tl) 3⟩ :: Hc) (fun r H' => ∃ (n2 : Nat) (tl2 : List Value), n2 = (l.filter (fun v => !p v)).length ∧ r = slV o n2 c ∧ Own o n2 c 1 (ivs (l.filter (fun v => !p v))) tl2 ∧ H' = ⟨o, cl (ivs (l.filter (fun v => !p v)) ++ tl2) 3⟩ :: Hc) := by
 have hidx := idxF_hit h0 hx0 hp0
 have hkl := (List.getElem?_eq_some_iff.1 hx0).1
 have hlc := own.le
 obtain ⟨wa, rfl⟩ := own.some_of (by omega)
 have hfk : l.take k = (l.take (k + 1)).filter (fun v => !p v) := by rw [flt_next hx0, if_pos hp0, List.append_nil]; exact (List.filter_eq_self.2 fun v hv => by rw [h0 v hv]; rfl).symm
 have hstart : l = l.take k ++ ([x0] ++ l.drop (k + 1)) := by rw [List.singleton_append, ← drop_at hx0, List.take_append_drop]
 refine Spec.of (E := [(0, slV (some wa) l.length c), (1, .func (.func gf) #[] ca.toArray)]) Tryz.func77 rfl (by kernel_rfl) Tryz.ntmps77 rfl rfl (fun w => ?_)
 refine WCr (WLa Z (WL_nil (WQ_code (WCr (WLa Z (WLa Z (WLq Z (idxf_ok l (some wa) c tl own gf ca Hc p hf hb) Z pqY ?_)))))))
 refine WLa Z (WL_nil (WQ_code (WC_seq (WCr (WLa Z (WLa Z (WL_nil (WQ_code (WC_dF Z (by rw [hidx]; omega) ?_)))))))))
 refine WC_skip (WQ_code (WC_seq (WCr (WLa Z (WLv Z (R_add Z Z Z (by omega)) ?_)))))
 refine WLa Z (WL_nil (WQ_code (WC_block (WC_set (s := 6) (v := .int .i64 ((k + 1 : Nat) : Int)) Z (by rw [hidx]; rfl) ?_))))
 refine WC_set (s := 5) (v := .int .i64 (((l.take k).length : Nat) : Int)) Z (by rw [hidx, List.length_take, Nat.min_eq_left (by omega)]) ?_
 rw [show cl (ivs l ++ tl) 3 = cl (ivs (l.take k ++ ([x0] ++ l.drop (k + 1))) ++ tl) 3 from by rw [← hstart]]
 refine WC_loopF (G := DelW) [5, 6, 7, 16, 17, 18, 19, 20, 21, 22, 23, 24, 25, 26, 27, 28, 29, 30, 31, 32, 33, 34, 35] (fun y => y.j ≤ l.length ∧ y.A = (l.take y.j).filter (fun v => !p v) ∧ y.A.length + y.J.length = y.j ∧ 1 ≤ y.J.length) (fun y => [(6, .int .i64 (y.j : Int)), (5, .int .i64 (y.A.length : Int))]) (fun y => [⟨some wa, cl (ivs (y.A ++ (y.J ++ l.drop y.j)) ++ tl) 3⟩]) (fun y => l.length - y.j) (⟨k + 1, l.take k, [x0]⟩) (⟨by dsimp only; omega, hfk, by dsimp only; rw [List.length_take, Nat.min_eq_left (by omega)]; rfl, Nat.le_refl _⟩) leZ pqY ?_
 rintro y ⟨hj, hA, hAJ, hJ⟩
 refine WC_seq (WCr (WLa Z (WLa Z (WLv Z (R_len Z Tryz.underlying23 Z) ?_))))
 refine WLa Z (WL_nil (WQ_code ?_))
 refine WC_dec Z (fun c1 => ?_) (fun c1 => ?_)
 ·refine WC_skip (WQ_code (WC_seq (WC_block (WCr ?_))))
  obtain ⟨x, hx⟩ := getE (T := l) (i := y.j) (by omega)
  have hdx := drop_at hx
  have hxm : (y.A ++ (y.J ++ l.drop y.j))[y.j]? = some x := by rw [hdx]; exact mid_get hAJ
  refine WLa Z (WLa Z (WLv Z (R_indexAddrN Z Tryz.underlying23 Tryz.sizeOf3 Z Z (by omega)) ?_))
  refine WLv Z (R_load (v := .int .i64 x) Z sc3 Z mmY (fm_get0 encI1 hxm (j := 0) (by omega))) ?_
  refine WLa Z (WL_nil (WQ_code (WCr (WLa Z (WLa Z (WLc Z (hf x (List.mem_of_getElem? hx)) Z pqY ?_))))))
  rintro _ _ ⟨_, ⟨rfl, rfl⟩, rfl⟩
  refine WLa Z (WL_nil (WQ_code ?_))
  refine WC_if Z (fun c2 => ?_) (fun c2 => ?_)
  ·have hc : p x = false := by simpa using c2
   obtain ⟨y9, J2, hJ2⟩ : ∃ a b, y.J = a :: b := by cases hq : y.J with | nil => rw [hq] at hJ; simp at hJ | cons a b => exact ⟨a, b, rfl⟩
   have hset : (y.A ++ (y.J ++ l.drop y.j)).set y.A.length x = (y.A ++ [x]) ++ ((J2 ++ [x]) ++ l.drop (y.j + 1)) := by rw [hJ2, mid_set, hdx]; simp
   refine WCr (WLa Z (WLa Z (WLa Z (WLv Z (R_indexAddrN Z Tryz.underlying23 Tryz.sizeOf3 Z Z (by omega)) ?_))))
   refine WLs (vs := [_]) Z Tryz.sizeOf3 Z Z plY (by exact fm_room0 encI1 (show y.A.length < (y.A ++ (y.J ++ l.drop y.j)).length by rw [List.length_append, List.length_append]; omega) (j := 0) (by omega)) ?_
   have hput := fm_put0 encI1 x (show (y.A ++ (y.J ++ l.drop y.j))[y.A.length]? = some y9 by rw [hJ2]; exact mid_at) (j := 0) (vs := [.int .i64 x]) (by simp) rfl (tl := tl)
   rw [Nat.add_zero] at hput
   rw [show ivs (y.A ++ (y.J ++ l.drop y.j)) = (y.A ++ (y.J ++ l.drop y.j)).flatMap encI from rfl, hput]
   refine WL_nil (WQ_code (WC_region (WLa Z (WLv Z (R_add Z Z Z (by omega)) ?_))))
   refine WL_set (s := 35) (v := .int .i64 (((y.A ++ [x]).length : Nat) : Int)) Z (by rw [List.length_append]; rfl) ?_
   refine WLa Z (WL_nil (WQ_code (WC_region (WLa Z (WLv Z (R_add Z Z Z (by omega)) ?_)))))
   refine WLa Z (WL_nil ?_)
   rw [hset]
   refine WQ_nextF (⟨y.j + 1, y.A ++ [x], J2 ++ [x]⟩) (⟨by dsimp only; omega, by dsimp only; rw [flt_next hx, if_neg (by rw [hc]; decide), ← hA], by dsimp only; rw [List.length_append, List.length_append]; simp only [List.length_cons, List.length_nil]; rw [hJ2] at hAJ; rw [List.length_cons] at hAJ; omega, by dsimp only; rw [List.length_append]; simp⟩) (by dsimp only; omega) leZ (psZ) Z pqY
  ·have hc : p x = true := by simpa using c2
   refine WC_skip (WQ_code (WC_region (WLa Z (WLv Z (R_add Z Z Z (by omega)) ?_))))
   refine WLa Z (WL_nil ?_)
   rw [show y.A ++ (y.J ++ l.drop y.j) = y.A ++ ((y.J ++ [x]) ++ l.drop (y.j + 1)) from by rw [hdx]; simp]
   refine WQ_nextF (⟨y.j + 1, y.A, y.J ++ [x]⟩) (⟨by dsimp only; omega, by dsimp only; rw [flt_next hx, if_pos hc, List.append_nil]; exact hA, by dsimp only; rw [List.length_append]; simp only [List.length_cons, List.length_nil]; omega, by dsimp only; rw [List.length_append]; omega⟩) (by dsimp only; omega) leZ (psZ) Z pqY
 ·have hjl : y.j = l.length := by omega
  have hdl : l.drop y.j = [] := by rw [hjl, List.drop_length]
  refine WC_exit (WQ_code (WCr (WLa Z (WLa Z (WLv Z (R_sliceFromK (m := y.A.length) Z Tryz.underlying23 Tryz.sizeOf3 Z Z (by omega)) ?_)))))
  rw [if_neg (by omega)]
  refine WL_do0 Z Z (D_clear Z si23 (fun v hv => by simp at hv; subst hv; rfl) Z plY (.inr (by rw [hdl, List.append_nil]; (show _ ≤ (ivs (y.A ++ y.J) ++ tl).length); rw [List.length_append, ivs_len, List.length_append]; omega))) ?_
  rintro _ _ ⟨ns, hns, rfl⟩
  rw [hdl, List.append_nil, show putAt (ivs (y.A ++ y.J) ++ tl) (0 + y.A.length * 1) ns = ivs y.A ++ (ns ++ tl) from by rw [show ivs (y.A ++ y.J) = ivs y.A ++ ivs y.J from List.flatMap_append, List.append_assoc, show 0 + y.A.length * 1 = (ivs y.A).length + 0 from by rw [ivs_len]; omega, putAt_append, putAt_eq _ _ _ (by rw [List.length_append, ivs_len]; omega)]; rw [List.take_zero, List.nil_append, Nat.zero_add, List.drop_append_of_le_length (by rw [ivs_len]; omega), List.drop_of_length_le (by rw [ivs_len]; omega), List.nil_append]]
  refine WL_nil (WQ_code (WCr (WLa Z (WLa Z (WLv Z (R_sliceTo (m := y.A.length) Z Tryz.underlying23 Tryz.sizeOf3 Z Z (by omega)) ?_)))))
  refine WLa Z (WL_nil (WQ_code (WC_ret ?_)))
  rw [hjl, List.take_length] at hA
  rw [← hA]
  refine WQ1 Z (by
    exact ⟨y.A.length, ns ++ tl, rfl, rfl, ⟨by rw [ivs_len]; omega, by have h8 := own.cap; rw [ivs_len] at h8 ⊢; rw [List.length_append]; omega, by omega, own.big, fun e => by cases e⟩, rfl⟩) pqY
theorem delf_ok (l : List Int) (o : Option Nat) (c : Nat) (tl : List Value) (own : Own o l.length c 1 (ivs l) tl) (gf : Nat) (ca : List Value) (Hc : Heap) (p : Int → Bool) (hf : ∀ v ∈ l, Spec Tryz.prog gf (.int .i64 v :: ca) Hc (fun r H' => r = .bool (p v) ∧ Hc = H')) (hb : l.length ≤ 1000000) : Spec Tryz.prog 77 [slV o l.length c, .func (.func gf) #[] ca.toArray] (⟨o, cl (ivs l ++ tl) 3⟩ :: Hc) (fun r H' => ∃ (n2 : Nat) (tl2 : List Value), n2 = (l.filter (fun v => !p v)).length ∧ r = slV o n2 c ∧ Own o n2 c 1 (ivs (l.filter (fun v => !p v))) tl2 ∧ H' = ⟨o, cl (ivs (l.filter (fun v => !p v)) ++ tl2) 3⟩ :: Hc) := by
 by_cases hn : ∀ v ∈ l, p v = false
 ·exact delf_none l o c tl own gf ca Hc p hf hb hn
 ·have key : ∀ (l : List Int), ¬ (∀ v ∈ l, p v = false) → ∃ k x0, (∀ v ∈ l.take k, p v = false) ∧ l[k]? = some x0 ∧ p x0 = true := by
   intro l
   induction l with
   | nil => intro h; exact absurd (fun v hv => by cases hv) h
   | cons a r ih =>
    intro h
    cases hp : p a with
    | true => exact ⟨0, a, fun v hv => by simp at hv, rfl, hp⟩
    | false =>
     obtain ⟨k, x0, h1, h2, h3⟩ := ih fun hr => h fun v hv => by
      rcases List.mem_cons.1 hv with rfl | hv
      ·exact hp
      ·exact hr v hv
     refine ⟨k + 1, x0, fun v hv => ?_, by simpa using h2, h3⟩
     rw [List.take_succ_cons] at hv
     rcases List.mem_cons.1 hv with rfl | hv
     ·exact hp
     ·exact h1 v hv
  obtain ⟨k, x0, h1, h2, h3⟩ := key l hn
  exact delf_some l o c tl own gf ca Hc p hf hb h1 h2 h3
theorem padv_ok {m : PM} {s : PS} (h : PIs m s) (hE : s.E.length ≤ 10000) (now : Nat) (hb : now ≤ 18446744073709551615) (h19 : s.cnt 3 ≤ 19) : Spec Tryz.prog 41 [ptrP m.p, .int .u64 (now : Int)] (poH m s) (fun r H' => ∃ m', r = .int .i64 (s.may true now) ∧ H' = poH m' (s.advance now) ∧ m'.p = m.p ∧ PIs m' (s.advance now)) := by
 have hql := h.ql
 have hll : (s.late now).length ≤ 1001 := by have := (late_perm s now).length_eq; have h9 := List.length_filter_le (fun x : Qp => decide (x.dl ≤ now)) s.Q; omega
 have hml : ((s.late now).map (·.who)).length = (s.late now).length := List.length_map _
 refine Spec.of (E := [(0, ptrP m.p), (1, .int .u64 (now : Int))]) Tryz.func41 rfl (by kernel_rfl) Tryz.ntmps41 rfl rfl (fun w => ?_)
 refine WCr (WLd Z (D_box (cs := [_]) Z Z Z) ?_)
 rintro _ _ ⟨b1, rfl, rfl⟩
 refine WLd Z (D_box (cs := [_]) Z Z Z) ?_
 rintro _ _ ⟨b2, rfl, rfl⟩
 refine WLa Z (WL_nil (WQ_code (WC_seq (WCr (WLl Z sc79 mmZ Z (WLl Z sc25 mmZ Z (WLq Z (pmay_ok h true now) Z pqZ ?_)))))))
 refine WLa Z (WL_nil (WQ_code (WCr (WLa Z (WLa Z (WL_nil (WQ_code ?_)))))))
 refine WC_dec Z (fun c1 => ?_) (fun c1 => ?_)
 ·have hm := c1
  refine WCr (WLa Z (WLa Z (WL_nil (WQ_code (WC_ret ?_)))))
  refine WQ1 Z (by
    exact ⟨m, rfl, by rw [adv_no hm], rfl, by rw [adv_no hm]; exact h⟩) pqZ
 ·have hm : s.may true now = 0 := Decidable.byContradiction c1
  refine WC_skip (WQ_code (WC_seq (WCr (WLl Z sc79 mmZ Z (WLq Z (pfull_ok h hE) Z pqZ ?_)))))
  refine WLa Z (WL_nil (WQ_code (WCr (WLa Z (WLa Z (WL_nil (WQ_code (WC_dF Z (by simp) ?_))))))))
  refine WC_skip (WQ_code (WCr (WLl Z sc79 mmZ Z (WLl Z sc25 mmZ Z (WLa Z (WLf Z fa136_3 (WLs (vs := [_]) Z Tryz.sizeOf25 Z Z plZ (by exact pc_nowr m s) ?_)))))))
  rw [pc_now]
  obtain ⟨_, hle, hnm⟩ := may_zero hm
  have h0 := h.at_ (now := now) hle (by omega)
  refine WL_nil (WQ_code (WCr (WLl Z sc79 mmZ Z (WLa Z (WLf Z fa136_6 (WLv Z (R_load (v := .map (some m.wm)) Z sc129 Z mmZ (pc_t h.cl Z 1)) ?_))))))
  refine WLc Z (wkeys_ok m.wm) Z pqZ ?_
  rintro _ _ ⟨_, ⟨bb, rfl, rfl⟩, rfl⟩
  refine WLc Z (wcoll_ok (W := wq s.Q) (by rw [List.length_map]; exact hql) bb m.wm m.wes m.wmc h.wM) Z pqZ ?_
  rintro _ _ ⟨_, ⟨xs, o9, c9, tl9, hperm, rfl, own9, rfl⟩, rfl⟩
  refine WLv Z (R_makeFunc Z Z Z) ?_
  have hxl : xs.length ≤ 1001 := by have := hperm.length_eq; rw [List.length_map, List.length_map] at this; omega
  refine WLc Z (delf_ok xs o9 c9 tl9 own9 80 [.pointer (some ⟨b1, 0, none⟩), .pointer (some ⟨b2, 0, none⟩)] [⟨some b1, cl [ptrP m.p] 79⟩, ⟨some b2, cl [.int .u64 (now : Int)] 25⟩, poP m (s.at_ now), poW m] (keepW s.Q now) (fun v _ => padv1_ok h0 b1 b2 now v) (by omega)) Z pqZ ?_
  rintro _ _ ⟨_, ⟨n2, tl2, rfl, rfl, own2, rfl⟩, rfl⟩
  refine WLa Z (WL_nil (WQ_code (WCr (WLa Z (WLv Z (R_makeFunc Z Z Z) ?_)))))
  refine WLc Z (psort_ok h0 b1 (xs.filter (fun v => !keepW s.Q now v)) (by have := List.length_filter_le (fun v => !keepW s.Q now v) xs; omega) o9 c9 tl2 own2) Z pqZ ?_
  rintro _ _ ⟨_, ⟨ys, rfl, hp2, hs2, rfl⟩, rfl⟩
  have hys : ys = (s.late now).map (·.who) := late_eq h hnm hperm hp2 hs2
  have hyl : (xs.filter (fun v => !keepW s.Q now v)).length = ((s.late now).map (·.who)).length := by rw [← hys]; exact hp2.length_eq.symm
  subst hys
  rw [hyl]
  refine WL_nil (WQ_code (WC_seq (WCr (WLa Z (WLv Z (R_len Z Tryz.underlying23 Z) ?_)))))
  refine WLa Z (WL_nil (WQ_code (WC_block (WC_loopF (G := AdW) [9, 41, 42, 43, 44, 45, 46, 47, 48, 49, 50, 51] (fun y => y.k ≤ (s.late now).length ∧ PIs y.m (((s.late now).take y.k).foldl PS.tmo (s.at_ now)) ∧ y.m.p = m.p) (fun y => [(41, .int .i64 (y.k : Int))]) (fun y => poH y.m (((s.late now).take y.k).foldl PS.tmo (s.at_ now))) (fun y => (s.late now).length - y.k) (⟨0, m⟩) (⟨Nat.zero_le _, h0, Z⟩) leZ pqZ ?_))))
  rintro y ⟨hk, hy, hyp⟩
  rw [← hyp]
  have hEk := (tmo_rest ((s.late now).take y.k) (s.at_ now)).2.2.2.1
  rw [List.length_take, show (s.at_ now).E = s.E from rfl] at hEk
  refine WCr (WLa Z (WL_nil (WQ_code (WC_seq ?_))))
  refine WC_dec Z (fun c2 => ?_) (fun c2 => ?_)
  ·refine WC_skip (WQ_code (WC_seq (WC_block (WCr ?_))))
   obtain ⟨wa, hwa⟩ := own2.some_of (by omega)
   obtain ⟨x, hx⟩ := getE (T := s.late now) (i := y.k) (by omega)
   obtain ⟨A, B, hQ⟩ := tmo_in h.nd hx (s.at_ now) rfl
   refine WLv Z (R_idxO hwa Z Tryz.underlying23 Tryz.sizeOf3 Z Z (by omega)) ?_
   refine WLv Z (R_loadO (v := .int .i64 x.who) hwa Z sc3 Z mmZ (fm_get0 encI1 (show ((s.late now).map (·.who))[y.k]? = some x.who by rw [List.getElem?_map, hx]; rfl) (j := 0) (by omega))) ?_
   refine WLa Z (WL_nil (WQ_code (WCr (WLl Z sc79 mmZ Z (WLa Z (WLc Z (pleave_ok hy hQ) Z pqZ ?_))))))
   rintro _ _ ⟨_, ⟨m1, rfl, rfl, hp1, h1⟩, rfl⟩
   rw [← hp1]
   refine WL_nil (WQ_code (WC_region (WLl Z sc79 mmZ Z (WLa Z (WLc Z (ptellH_ok h1 4 x.who (-1) (show (((s.late now).take y.k).foldl PS.tmo (s.at_ now)).E.length ≤ 1000000 by omega)) Z pqZ ?_)))))
   rintro _ _ ⟨_, ⟨m2, rfl, rfl, hp2m, h2m⟩, rfl⟩
   refine WL_nil (WQ_code (WC_region (WLv Z (R_add Z Z Z (by omega)) ?_)))
   refine WLa Z (WL_nil ?_)
   rw [show ((((s.late now).take y.k).foldl PS.tmo (s.at_ now)).leave x.who).tell 4 x.who (-1) = ((s.late now).take (y.k + 1)).foldl PS.tmo (s.at_ now) from (qp_next hx _).symm]
   refine WQ_nextF (⟨y.k + 1, m2⟩) (⟨by dsimp only; omega, by dsimp only; rw [qp_next hx]; exact h2m, by first | rfl | exact hp2m⟩) (by dsimp only; omega) leZ (psZ) Z pqZ
  ·have hkl : y.k = (s.late now).length := by omega
   have hst : ((s.late now).take y.k).foldl PS.tmo (s.at_ now) = s.adv1 now := by rw [hkl, List.take_length]; rfl
   rw [hst]
   rw [hst] at hy
   have hC1 : (s.adv1 now).C = s.C := (tmo_rest (s.late now) (s.at_ now)).1
   have hN1 : (s.adv1 now).now = now := (tmo_rest (s.late now) (s.at_ now)).2.2.1
   have hE1 : (s.adv1 now).E.length = s.E.length + (s.late now).length := (tmo_rest (s.late now) (s.at_ now)).2.2.2.1
   refine WC_exit (WQ_code (WCr (WLl Z sc79 mmZ Z (WLc Z (pall_ok hy 3) Z pqZ ?_))))
   rintro _ _ ⟨_, ⟨o8, c8, tl8, rfl, own8, rfl⟩, rfl⟩
   refine WLv Z (R_makeFunc Z Z Z) ?_
   refine WLc Z (delf_ok (allI 3 (s.adv1 now).C) o8 c8 tl8 own8 86 [.pointer (some ⟨b1, 0, none⟩), .pointer (some ⟨b2, 0, none⟩)] [⟨some b1, cl [ptrP y.m.p] 79⟩, ⟨some b2, cl [.int .u64 (now : Int)] 25⟩, poP y.m (s.adv1 now)] (young (s.adv1 now) now) (fun v hv => padv3_ok hy b1 b2 now (by rw [hN1]; exact Nat.le_refl _) hb v hv) (by have := allI_len 3 (s.adv1 now).C; rw [hy.cl] at this; omega)) Z pqZ ?_
   rintro _ _ ⟨_, ⟨n3, tl3, rfl, rfl, own3, rfl⟩, rfl⟩
   refine WLa Z (WL_nil (WQ_code (WCr (WLa Z (WLv Z (R_makeFunc Z Z Z) ?_)))))
   refine WLq Z (stabf_ok ((allI 3 (s.adv1 now).C).filter (fun v => !young (s.adv1 now) now v)) o8 c8 tl3 own3 88 [.pointer (some ⟨b1, 0, none⟩)] [⟨some b1, cl [ptrP y.m.p] 79⟩, poP y.m (s.adv1 now)] (ageC (s.adv1 now).C) (fun a ha b hb => padv4_ok hy b1 a b (List.mem_filter.1 ha).1 (List.mem_filter.1 hb).1) (by have := List.length_filter_le (fun v => !young (s.adv1 now) now v) (allI 3 (s.adv1 now).C); rw [hC1] at this ⊢; unfold PS.cnt at h19; omega)) Z pqZ ?_
   rw [old_eq]
   have hol3 : ((allI 3 (s.adv1 now).C).filter (fun v => !young (s.adv1 now) now v)).length = ((s.adv1 now).old now).length := (List.mergeSort_perm _ _).length_eq.symm
   rw [hol3]
   refine WL_nil (WQ_code (WC_seq (WCr (WLa Z (WLv Z (R_len Z Tryz.underlying23 Z) ?_)))))
   refine WLa Z (WL_nil (WQ_code (WC_block ?_)))
   have hol := old_len (s.adv1 now) now
   have hal := allI_len 3 (s.adv1 now).C
   rw [hy.cl] at hal
   refine WC_loopF (G := AdW) [12, 61, 62, 63, 64, 65, 66, 67, 68, 69, 70, 71] (fun z => z.k ≤ ((s.adv1 now).old now).length ∧ PIs z.m ((((s.adv1 now).old now).take z.k).foldl PS.shut (s.adv1 now)) ∧ z.m.p = y.m.p) (fun z => [(61, .int .i64 (z.k : Int))]) (fun z => poH z.m ((((s.adv1 now).old now).take z.k).foldl PS.shut (s.adv1 now))) (fun z => ((s.adv1 now).old now).length - z.k) (⟨0, y.m⟩) (⟨Nat.zero_le _, hy, Z⟩) leZ pqZ ?_
   rintro z ⟨hzk, hz, hzp⟩
   rw [← hzp]
   have hEz := shuts_E (((s.adv1 now).old now).take z.k) (s.adv1 now)
   rw [List.length_take] at hEz
   refine WCr (WLa Z (WL_nil (WQ_code (WC_seq ?_))))
   refine WC_dec Z (fun c3 => ?_) (fun c3 => ?_)
   ·refine WC_skip (WQ_code (WC_seq (WC_block (WCr ?_))))
    obtain ⟨wb, hwb⟩ := own3.some_of (by omega)
    obtain ⟨c, hc⟩ := getE (T := (s.adv1 now).old now) (i := z.k) (by omega)
    obtain ⟨i9, x9, rfl, hx9, _⟩ := allI_mem (old_mem (List.mem_of_getElem? hc)).1
    have hi64 : i9 < 64 := by have := (List.getElem?_eq_some_iff.1 hx9).1; rw [hy.cl] at this; exact this
    have hsh := (pshut_eq ((((s.adv1 now).old now).take z.k).foldl PS.shut (s.adv1 now)) i9).symm
    refine WLv Z (R_idxO hwb Z Tryz.underlying23 Tryz.sizeOf3 Z Z (by omega)) ?_
    refine WLv Z (R_loadO (v := .int .i64 (i9 : Int)) hwb Z sc3 Z mmZ (fm_get0 encI1 hc (j := 0) (by omega))) ?_
    refine WLa Z (WL_nil (WQ_code (WCr (WLl Z sc79 mmZ Z (WLa Z (WLc Z (ptellH_ok hz 5 (-1) (i9 : Int) (by omega)) Z pqZ ?_))))))
    rintro _ _ ⟨_, ⟨m3, rfl, rfl, hp3, h3m⟩, rfl⟩
    rw [← hp3]
    refine WL_nil (WQ_code (WC_region (WLl Z sc79 mmZ Z (WLa Z (WLc Z (plose_ok h3m i9 (by omega) (by show (_ ++ [_]).length ≤ _; rw [List.length_append]; simp; omega)) Z pqZ ?_)))))
    rintro _ _ ⟨_, ⟨m2, rfl, rfl, hp2, h2⟩, rfl⟩
    refine WL_nil (WQ_code (WC_region (WLv Z (R_add Z Z Z (by omega)) ?_)))
    refine WLa Z (WL_nil ?_)
    rw [hsh, ← shut_next hc]
    refine WQ_nextF (⟨z.k + 1, m2⟩) (⟨by dsimp only; omega, by dsimp only; rw [shut_next hc, ← hsh]; exact h2, by first | rfl | exact hp2⟩) (by dsimp only; omega) leZ (psZ) Z pqZ
   ·have hzl : z.k = ((s.adv1 now).old now).length := by omega
    refine WC_exit (WQ_code (WCr (WLa Z (WL_nil (WQ_code (WC_ret ?_))))))
    rw [hzl, List.take_length] at hz
    rw [hzl, List.take_length]
    refine WQ1 Z (by
      exact ⟨z.m, congrArg (Value.int .i64) hm.symm, by rw [adv_ok hm], by first | rfl | exact hzp, by rw [adv_ok hm]; exact hz⟩) pqZ
theorem xp_adv {ms : List PM} {ss : List PS} {i : Nat} {mi : PM} {si : PS} (h1 : ms[i]? = some mi) (h2 : ss[i]? = some si) (h : PIs mi si) (hE : si.E.length ≤ 10000) (now : Nat) (hb : now ≤ 18446744073709551615) (h19 : si.cnt 3 ≤ 19) : Spec Tryz.prog 41 [ptrP mi.p, .int .u64 (now : Int)] (poolsH ms ss) (fun r H' => ∃ m', r = .int .i64 (si.may true now) ∧ H' = poolsH (ms.set i m') (ss.set i (si.advance now)) ∧ m'.p = mi.p ∧ PIs m' (si.advance now)) := by
 refine (Spec.pool h1 h2 (Q := fun r m' s' => r = .int .i64 (si.may true now) ∧ s' = si.advance now ∧ m'.p = mi.p ∧ PIs m' s') ((padv_ok h hE now hb h19).mono ?_)).mono ?_
 ·rintro r H' ⟨m', e1, e2, e3, e4⟩
  exact ⟨m', _, e2, e1, rfl, e3, e4⟩
 ·rintro r H' ⟨m', s', e1, e2, rfl, e3, e4⟩
  exact ⟨m', e2, e1, e3, e4⟩
theorem xadv_err (m : XM) (x : PX) (now : Nat) (he : x.may true now ≠ 0) : Spec Tryz.prog 15 [ptrP m.p, .int .u64 (now : Int)] [pxE m x] (fun r H' => r = .int .i64 (x.may true now) ∧ H' = [pxE m x]) := by
 refine Spec.of (E := [(0, ptrP m.p), (1, .int .u64 (now : Int))]) Tryz.func15 rfl (by kernel_rfl) Tryz.ntmps15 rfl rfl (fun w => ?_)
 refine WCr (WLd Z (D_box (cs := [_]) Z Z Z) ?_)
 rintro _ _ ⟨b1, rfl, rfl⟩
 refine WLa Z (WL_nil (WQ_code (WC_seq (WCr (WLa Z (WLl Z sc25 mmD Z (WLq Z (xmay_ok m x true now) Z pqD ?_)))))))
 refine WLa Z (WL_nil (WQ_code (WCr (WLa Z (WLa Z (WL_nil (WQ_code (WC_dT Z (by exact he) ?_))))))))
 refine WCr (WLa Z (WLa Z (WL_nil (WQ_code (WC_ret ?_)))))
 refine WQ1 Z (by
   exact ⟨rfl, rfl⟩) pqD
theorem xadv_ok {N : Nat} {m : XM} {x : PX} (h : PXIs N m x) (hg : PXG x) (now : Nat) (hb : now ≤ 18446744073709551615) (hm : x.may true now = 0) (hE : x.E.length ≤ 10000) (hP : x.P.length ≤ 100) {b : Nat} (hB : PXB b x) (hbb : b ≤ 1000000000) (h19 : ∀ si ∈ x.P, si.cnt 3 ≤ 19) (hN : N + evS now x.P ≤ 8000) :
  Spec Tryz.prog 15 [ptrP m.p, .int .u64 (now : Int)] (pxH m x) (fun r H' => ∃ m' N', r = .int .i64 0 ∧ H' = pxH m' (x.adv now) ∧ N' ≤ N + evS now x.P + 101 ∧ PXIs N' m' (x.adv now) ∧ m'.p = m.p) := by
 obtain ⟨_, hn1, hn2⟩ := xmay_zero_of hm
 have htr : x.pl.tries ≤ 100 := by obtain ⟨q1, q2, q3, q4, q5, q6, q7, q8, q9, q10⟩ := h.ok; exact q8
 refine Spec.of (E := [(0, ptrP m.p), (1, .int .u64 (now : Int))]) Tryz.func15 rfl (by kernel_rfl) Tryz.ntmps15 rfl rfl (fun w => ?_)
 refine WCr (WLd Z (D_box (cs := [_]) Z Z Z) ?_)
 rintro _ _ ⟨b1, rfl, rfl⟩
 refine WLa Z (WL_nil (WQ_code (WC_seq (WCr (WLa Z (WLl Z sc25 mmD Z (WLq Z (xmay_ok m x true now) Z pqD ?_)))))))
 refine WLa Z (WL_nil (WQ_code (WCr (WLa Z (WLa Z (WL_nil (WQ_code (WC_dF Z (by exact fun e => e hm) ?_))))))))
 refine WC_skip (WQ_code (WC_seq (WCr (WLa Z (WLq Z (xfull_ok m x hE) Z pqD ?_)))))
 refine WLa Z (WL_nil (WQ_code (WCr (WLa Z (WLa Z (WL_nil (WQ_code (WC_dF Z (by exact fun e => e rfl) ?_))))))))
 refine WC_skip (WQ_code (WCr (WLa Z (WLl Z sc25 mmD Z (WLa Z (WLf Z fa68_3 (WLs (vs := [_]) Z Tryz.sizeOf25 Z Z plD (nb Z) ?_)))))))
 refine WL_shape (A := [pxE m { x with now := now }]) pqD (List.Perm.refl _) ?_
 have h0 : PXIs N m { x with now := now } := h.at_ (by omega)
 have g0 := hg.at_ hn1
 refine WL_nil (WQ_code (WC_seq (WCr (WLa Z (WLa Z (WLf Z fa68_1 (WLl Z sc56 mmD Z (WL_set (s := 30) (v := slV m.ob x.P.length m.oc) Z (by rfl) ?_))))))))
 refine WLv Z (R_len Z Tryz.underlying56 Z) ?_
 refine WLa Z (WL_nil (WQ_code (WC_block (WC_loopF (G := AvX) [7, 8, 32, 33, 34, 35, 36, 37, 38, 39, 40, 41, 42, 43] (fun y => y.k ≤ x.P.length ∧ PXIs y.N y.m y.x ∧ PXG y.x ∧ XKeep m y.m ∧ y.x = x.advK now y.k ∧ y.N + evS now (x.P.drop y.k) ≤ N + evS now x.P ∧ y.x.E.length + evS now (x.P.drop y.k) ≤ x.E.length + evS now x.P) (fun y => [(32, .int .i64 (y.k : Int))]) (fun y => pxH y.m y.x) (fun y => x.P.length - y.k) (⟨0, m, { x with now := now }, N⟩) (⟨Nat.zero_le _, h0, g0, XKeep.refl m, Z, Nat.le_refl _, Nat.le_refl _⟩) leZ pqD ?_))))
 rintro y ⟨hk, gy, ggy, kp, hyx, hyN, hyE⟩
 refine WCr (WLa Z (WL_nil (WQ_code (WC_seq ?_))))
 refine WC_dec Z (fun c1 => ?_) (fun c1 => ?_)
 ·refine WC_skip (WQ_code (WC_seq (WC_block (WCr ?_))))
  obtain ⟨si, hsx⟩ := getE (T := x.P) (i := y.k) (by omega)
  have hsm := List.mem_of_getElem? hsx
  have hi : y.x.P[y.k]? = some si := by rw [hyx, (advK_facts x now y.k).2.2.2 y.k (Nat.le_refl _)]; exact hsx
  obtain ⟨my, hmy⟩ := pool_at gy hi
  have hpl := h.oq.len
  obtain ⟨wq, hwq⟩ := h.oq.some_of (by omega)
  have hwy : y.m.ob = some wq := kp.ob.trans hwq
  have hily := (List.getElem?_eq_some_iff.1 hi).1
  have hev := evS_drop (now := now) hsx
  have hynow : y.x.now = now := by rw [hyx]; exact (advK_facts x now y.k).1
  have hpo9 := ggy.po y.k si hi
  have hi1 : ({ y.x with P := y.x.P.set y.k (si.advance now) } : PX).P[y.k]? = some (si.advance now) := List.getElem?_set_self hily
  have gg1 : PXG { y.x with P := y.x.P.set y.k (si.advance now) } := by
   obtain ⟨q1, q2⟩ := ph_adv hpo9.ph hpo9.nw
   rw [hynow] at q1 q2
   exact ggy.pool hi (by rw [hynow] at hpo9 ⊢; exact hpo9.op (opd_adv (pend_who hpo9) now) q1 q2)
  have hadv : x.advK now (y.k + 1) = PX.drain { y.x with P := y.x.P.set y.k (si.advance now) } y.k := by
   rw [advK_next, ← hyx]
   unfold PX.advP
   rw [hi]
  have hE9 : (PX.drain { y.x with P := y.x.P.set y.k (si.advance now) } y.k).E.length ≤ y.x.E.length + (si.advance now).E.length := drain_E hi1
  have hNle : evS now (x.P.drop y.k) ≤ N + evS now x.P := by omega
  refine WLa Z (WLv Z (R_idxO hwq Z Tryz.underlying56 Tryz.sizeOf79 Z Z (by omega)) ?_)
  refine WLv Z (R_loadO (v := ptrP my.p) hwy Z sc79 Z mmD (fm_get0 encPq1 hmy (j := 0) (by omega))) ?_
  refine WLa Z (WLa Z (WL_nil (WQ_code (WCr (WLa Z (WLl Z sc25 mmD Z (WLc Z (XL.pool gy hmy (Q := fun r => r = .int .i64 (si.may true now)) (xp_adv hmy hi (gy.po _ _ _ hmy hi) (by rw [(hB si hsm).1]; exact Nat.zero_le _) now (by omega) (h19 si hsm))) Z pqD ?_)))))))
  rintro _ _ ⟨_, ⟨m1, rfl, rfl, g1, kp1⟩, rfl⟩
  refine WL_nil (WQ_code (WC_region (WLa Z (WL_set (s := 40) (v := ptrP m1.p) Z (by rw [kp1.p, kp.p]) ?_))))
  refine WLa Z (WLc Z (xdrain_ok g1 gg1 hi1 (by omega) (by show y.x.E.length + _ ≤ _; omega)) Z pqD ?_)
  rintro _ _ ⟨_, ⟨m2, N2, rfl, rfl, hN2, g2, kp2, gg2⟩, rfl⟩
  refine WL_nil (WQ_code (WC_region (WLv Z (R_add Z Z Z (by omega)) ?_)))
  refine WLa Z (WL_nil ?_)
  refine WQ_nextF (⟨y.k + 1, m2, PX.drain { y.x with P := y.x.P.set y.k (si.advance now) } y.k, N2⟩) (⟨by dsimp only; omega, g2, gg2, (kp.trans kp1).trans kp2, hadv.symm, by dsimp only; omega, by show (PX.drain { y.x with P := y.x.P.set y.k (si.advance now) } y.k).E.length + evS now (x.P.drop (y.k + 1)) ≤ _; omega⟩) (by dsimp only; omega) leZ (psZ) Z pqD
 ·refine WC_exit (WQ_code (WCr ?_))
  have hkl : y.k = x.P.length := by omega
  have hyx2 : y.x = x.advK now x.P.length := by rw [hyx, hkl]
  have hndY := ggy.nd
  have hYl := nums_len hndY gy.num
  have hynow : y.x.now = now := by rw [hyx]; exact (advK_facts x now y.k).1
  refine WLa Z (WL_set (s := 44) (v := ptrP y.m.p) Z (by rw [kp.p]) ?_)
  refine WLa Z (WLf Z fa68_4 (WLl Z sc66 mmD Z (WLc Z (xvals_ok y.m.sb) Z pqD ?_)))
  rintro _ _ ⟨_, ⟨bb, rfl, rfl⟩, rfl⟩
  refine WLc Z (xcoll_ok (W := sesM y.x.S) (by rw [List.length_map]; omega) bb y.m.sb y.m.ses y.m.smc gy.mp) Z pqD ?_
  rintro _ _ ⟨_, ⟨xs, o9, c9, tl9, hperm, rfl, own9, rfl⟩, rfl⟩
  refine WLv Z (R_makeFunc Z Z Z) ?_
  have hxl : xs.length ≤ 101 := by have := hperm.length_eq; rw [List.length_map, List.length_map] at this; omega
  refine WLc Z (xdelf_ok (plW (sesM y.x.S)) xs o9 c9 tl9 own9 45 [.pointer (some ⟨b1, 0, none⟩)] (⟨some b1, cl [.int .u64 (now : Int)] 25⟩ :: ssH y.x.S) (lateS y.x.S now) (fun v hv => xlatK_ok hndY (by rw [← sesM_keys]; exact hperm.mem_iff.1 hv) b1 now) (by omega)) Z pqD ?_
  rintro _ _ ⟨_, ⟨n2, tl2, rfl, rfl, own2, rfl⟩, rfl⟩
  refine WLa Z (WL_nil (WQ_code (WCr (WLa Z (WLc Z (xsort_ok hndY (xs.filter (fun v => !lateS y.x.S now v)) (by have := List.length_filter_le (fun v => !lateS y.x.S now v) xs; omega) (fun k hk => by rw [← sesM_keys]; exact hperm.mem_iff.1 (List.mem_filter.1 hk).1) o9 c9 tl2 own2) Z pqD ?_)))))
  rintro _ _ ⟨_, ⟨ys, rfl, hp2, hs2, rfl⟩, rfl⟩
  have hys : ys = y.x.due.map (·.num) := due_eq hndY hperm (by rw [hynow]; exact hp2) hs2
  have hyl : (xs.filter (fun v => !lateS y.x.S now v)).length = y.x.due.length := by have := hp2.length_eq; rw [hys, List.length_map] at this; exact this.symm
  subst hys
  rw [hyl] at own2 ⊢
  have hdl9 : y.x.due.length ≤ 101 := by have := (due_perm y.x).length_eq; have h9 := List.length_filter_le (fun s : Ss => decide (s.st = 1 ∧ s.til ≤ y.x.now)) y.x.S; omega
  have hBy : PXB (b + 1) y.x := by rw [hyx]; exact advK_B hg hB now y.k
  have hple : y.x.pl = x.pl := by rw [hyx]; exact (advK_facts x now y.k).2.1
  have hdrop0 : evS now (x.P.drop y.k) = 0 := by rw [hkl, List.drop_length]; rfl
  have hEv : evS now x.P ≤ 8000 := by omega
  refine WL_nil (WQ_code (WC_seq (WCr (WLa Z (WLv Z (R_len Z Tryz.underlying97 Z) ?_)))))
  refine WLa Z (WL_nil (WQ_code (WC_block (WC_loopF (G := AvX) [11, 56, 57, 58, 59, 60, 61, 62, 63, 64, 65, 66, 67, 68, 69, 70, 71, 72] (fun z => z.k ≤ y.x.due.length ∧ PXIs z.N z.m z.x ∧ PXG z.x ∧ z.m.p = m.p ∧ z.x = (y.x.due.take z.k).foldl (PX.dueF now) y.x ∧ z.N ≤ y.N + z.k ∧ z.x.E.length ≤ y.x.E.length + z.k ∧ PXB (b + 1 + z.k) z.x ∧ z.x.now = now ∧ z.x.pl = x.pl ∧ ∀ s ∈ y.x.due.drop z.k, s ∈ z.x.S) (fun z => [(56, .int .i64 (z.k : Int))]) (fun z => pxH z.m z.x) (fun z => y.x.due.length - z.k) (⟨0, y.m, y.x, y.N⟩) (⟨Nat.zero_le _, gy, ggy, kp.p, Z, Nat.le_refl _, Nat.le_refl _, hBy, hynow, hple, fun s hs => (due_mem hs).1⟩) leZ pqD ?_))))
  rintro z ⟨hzk, gz, ggz, hzp, hzx, hzN, hzE, hBz, hznow, hzpl, hrem⟩
  refine WCr (WLa Z (WL_nil (WQ_code (WC_seq ?_))))
  refine WC_dec Z (fun c2 => ?_) (fun c2 => ?_)
  ·refine WC_skip (WQ_code (WC_seq (WC_block (WCr ?_))))
   obtain ⟨s, hsd⟩ := getE (T := y.x.due) (i := z.k) (by omega)
   obtain ⟨hsS, hst1, _⟩ := due_mem (List.mem_of_getElem? hsd)
   have hsz : s ∈ z.x.S := hrem s (by rw [dropX hsd]; exact List.mem_cons_self ..)
   obtain ⟨A, B, hS⟩ := List.append_of_mem hsz
   obtain ⟨wd, hwd⟩ := own2.some_of (by omega)
   refine WLv Z (R_idxO hwd Z Tryz.underlying97 Tryz.sizeOf87 Z Z (by omega)) ?_
   refine WLv Z (R_loadO (v := ptrS (plW (sesM y.x.S) s.num)) hwd Z sc87 Z mmD (fm_get0 (encP1 _) (show (y.x.due.map (·.num))[z.k]? = some s.num by rw [List.getElem?_map, hsd]; rfl) (j := 0) (by omega))) ?_
   refine WL_set (s := 59) (v := ptrS s.p) Z (by rw [plW_at hndY hsS]) ?_
   have hpm9 : (ssH z.x.S).Perm (seE s :: ssH (A ++ B)) := by rw [hS]; exact ssH_split A B s
   refine WL_shape (A := ssH z.x.S) pqD hpm9 ?_
   refine WLa Z (WL_nil (WQ_code (WC_seq (WC_draw _ [(0, true), (1, true), (2, true), (3, true), (4, true), (5, true)] followsMixed Z Z (by kernel_rfl) .all ?_))))
   refine WMa Z (WMa Z (WMf Z fa90_2 (WMl Z sc25 mmD Z (WMl Z sc25 mmD Z (WMa Z (WM_nil (WQ_code ?_)))))))
   refine WC_dec Z (fun c3 => ?_) (fun c3 => ?_)
   ·have hdl : s.dl ≤ now := by omega
    refine WC_region (WLa Z (WL_set (s := 66) (v := ptrP z.m.p) Z (by rw [hzp]) ?_))
    refine WL_shape (A := seE s :: ssH (A ++ B)) pqD hpm9.symm ?_
    refine WLa Z (WLc Z (xf_fail gz (by omega) ggz.nd hS hdl) Z pqD ?_)
    rintro _ _ ⟨_, ⟨m3, rfl, rfl, g3, hp3⟩, rfl⟩
    refine WL_nil (WQ_code (WC_region (WLv Z (R_add Z Z Z (by omega)) ?_)))
    refine WLa Z (WL_nil ?_)
    obtain ⟨r1, r2, r3, r4, r5⟩ := dueF_rest ggz now s hBz
    have hS9 : ∀ q ∈ y.x.due.drop (z.k + 1), q ∈ (z.x.dueF now s).S := fun q hq => by
     have h1 := hrem q (by rw [dropX hsd]; exact List.mem_cons_of_mem _ hq)
     have h2 := due_nodup hndY
     have h3 : ((y.x.due.drop z.k).map (·.num)).Nodup := h2.sublist ((List.drop_sublist ..).map _)
     rw [dropX hsd, List.map_cons, List.nodup_cons] at h3
     exact dueF_only z.x now s q h1 (fun e => h3.1 (by rw [← e]; exact List.mem_map_of_mem hq))
    refine WQ_nextF (⟨z.k + 1, m3, z.x.dueF now s, z.N + 1⟩) (⟨by dsimp only; omega, g3, ggz.dueF now hS hst1 (by rw [hzpl]; exact htr), hp3.trans hzp, by rw [foldl_next hsd, ← hzx], by dsimp only; omega, by dsimp only; omega, r4, by rw [r1]; exact hznow, by rw [r2]; exact hzpl, hS9⟩) (by dsimp only; omega) leZ (psZ) Z pqD
   ·have hdl : ¬ s.dl ≤ now := by omega
    refine WC_region (WLa Z (WL_set (s := 69) (v := ptrP z.m.p) Z (by rw [hzp]) ?_))
    refine WL_shape (A := seE s :: ssH (A ++ B)) pqD hpm9.symm ?_
    refine WLa Z (WLc Z (xf_att gz (by omega) (by omega) ggz hBz (by omega) hS hdl) Z pqD ?_)
    rintro _ _ ⟨_, ⟨m3, rfl, rfl, g3, hp3⟩, rfl⟩
    refine WL_nil (WQ_code (WC_region (WLv Z (R_add Z Z Z (by omega)) ?_)))
    refine WLa Z (WL_nil ?_)
    obtain ⟨r1, r2, r3, r4, r5⟩ := dueF_rest ggz now s hBz
    have hS9 : ∀ q ∈ y.x.due.drop (z.k + 1), q ∈ (z.x.dueF now s).S := fun q hq => by
     have h1 := hrem q (by rw [dropX hsd]; exact List.mem_cons_of_mem _ hq)
     have h2 := due_nodup hndY
     have h3 : ((y.x.due.drop z.k).map (·.num)).Nodup := h2.sublist ((List.drop_sublist ..).map _)
     rw [dropX hsd, List.map_cons, List.nodup_cons] at h3
     exact dueF_only z.x now s q h1 (fun e => h3.1 (by rw [← e]; exact List.mem_map_of_mem hq))
    refine WQ_nextF (⟨z.k + 1, m3, z.x.dueF now s, z.N + 1⟩) (⟨by dsimp only; omega, g3, ggz.dueF now hS hst1 (by rw [hzpl]; exact htr), hp3.trans hzp, by rw [foldl_next hsd, ← hzx], by dsimp only; omega, by dsimp only; omega, r4, by rw [r1]; exact hznow, by rw [r2]; exact hzpl, hS9⟩) (by dsimp only; omega) leZ (psZ) Z pqD
  ·refine WC_exit (WQ_code (WCr (WLa Z (WL_nil (WQ_code (WC_ret ?_))))))
   have hzl : z.k = y.x.due.length := by omega
   have hX9 : x.adv now = z.x := by
    rw [hzx, hzl, List.take_length, hyx2]; rfl
   rw [hX9]
   refine WQ1 Z (by
     exact ⟨z.m, z.N, rfl, rfl, by omega, gz, hzp⟩) pqD
theorem pnew_bad (op most : Int) (keep : Nat) (hbad : op < 1 ∨ 64 < op ∨ most < 0 ∨ 64 < most ∨ keep < 1) : Spec Tryz.prog 28 [.int .i64 op, .int .i64 most, .int .u64 (keep : Int)] [] (fun r H' => r = .tuple #[.pointer none, .int .i64 2] ∧ H' = []) := by
 refine Spec.of (E := [(0, .int .i64 op), (1, .int .i64 most), (2, .int .u64 (keep : Int))]) Tryz.func28 rfl (by kernel_rfl) Tryz.ntmps28 rfl rfl (fun w => ?_)
 refine WCr (WLa Z (WLa Z (WL_nil (WQ_code (WC_seq (WCr (WLa Z (WLa Z (WLa Z ?_)))))))))
 refine WL_splitD (s := 10) Z (fun c1 => ?_) (fun c1 => ?_)
 ·refine WLa Z (WLa Z (WLa Z (WLa Z (WLa Z (WLa Z (WLa Z (WLa Z (WLa Z (WLa Z (WLa Z (WLa Z (WLa Z (WLa Z (WLa Z (WL_nil (WQ_code (WC_T Z (WCr (WLa Z (WLa Z (WL_nil (WQ_code (WC_ret ?_)))))))))))))))))))))))
  refine WQ2 Z (by
    exact ⟨rfl, rfl⟩) pqZ
 ·refine WLa Z (WLa Z (WLa Z (WLa Z ?_)))
  refine WL_splitD (s := 14) Z (fun c2 => ?_) (fun c2 => ?_)
  ·refine WLa Z (WLa Z (WLa Z (WLa Z (WLa Z (WLa Z (WLa Z (WLa Z (WLa Z (WLa Z (WLa Z (WL_nil (WQ_code (WC_T Z (WCr (WLa Z (WLa Z (WL_nil (WQ_code (WC_ret ?_)))))))))))))))))))
   refine WQ2 Z (by
     exact ⟨rfl, rfl⟩) pqZ
  ·refine WLa Z (WLa Z (WLa Z (WLa Z ?_)))
   refine WL_splitD (s := 18) Z (fun c3 => ?_) (fun c3 => ?_)
   ·refine WLa Z (WLa Z (WLa Z (WLa Z (WLa Z (WLa Z (WLa Z (WL_nil (WQ_code (WC_T Z (WCr (WLa Z (WLa Z (WL_nil (WQ_code (WC_ret ?_)))))))))))))))
    refine WQ2 Z (by
      exact ⟨rfl, rfl⟩) pqZ
   ·refine WLa Z (WLa Z (WLa Z (WLa Z ?_)))
    refine WL_splitD (s := 22) Z (fun c4 => ?_) (fun c4 => ?_)
    ·refine WLa Z (WLa Z (WLa Z (WL_nil (WQ_code (WC_T Z (WCr (WLa Z (WLa Z (WL_nil (WQ_code (WC_ret ?_)))))))))))
     refine WQ2 Z (by
       exact ⟨rfl, rfl⟩) pqZ
    ·refine WLa Z (WLa Z (WLa Z (WL_nil (WQ_code (WC_dT Z (by omega) ?_)))))
     refine WCr (WLa Z (WLa Z (WL_nil (WQ_code (WC_ret ?_)))))
     refine WQ2 Z (by
       exact ⟨rfl, rfl⟩) pqZ
theorem PIs.new (b1 pq pm mb : Nat) {op most keep : Nat} (h1 : 1 ≤ op ∧ op ≤ 64) (h2 : most ≤ 64) (h3 : 1 ≤ keep ∧ keep ≤ 18446744073709551615) : PIs (⟨b1, pq, pm, #[], 0, mb, #[], 0, none, 0, 0, [], []⟩ : PM) (PS.new op most keep) :=
 ⟨by simp [PS.new], Qk.empty 0, mp_new, Mk.empty, OwnS.empty 3, fun x hx => (by cases hx), h1, h2, fun x hx => by rw [List.eq_of_mem_replicate hx]; exact Nat.zero_le _, Nat.zero_le _, h3, fun x hx => by rw [List.eq_of_mem_replicate hx]; exact ⟨by decide, by decide⟩⟩
theorem pnew_ok (op most keep : Nat) (h1 : 1 ≤ op ∧ op ≤ 64) (h2 : most ≤ 64) (h3 : 1 ≤ keep ∧ keep ≤ 18446744073709551615) : Spec Tryz.prog 28 [.int .i64 (op : Int), .int .i64 (most : Int), .int .u64 (keep : Int)] [] (fun r H' => ∃ m, r = .tuple #[ptrP m.p, .int .i64 0] ∧ H' = poH m (PS.new op most keep) ∧ PIs m (PS.new op most keep)) := by
 refine Spec.of (E := [(0, .int .i64 (op : Int)), (1, .int .i64 (most : Int)), (2, .int .u64 (keep : Int))]) Tryz.func28 rfl (by kernel_rfl) Tryz.ntmps28 rfl rfl (fun w => ?_)
 refine WCr (WLa Z (WLa Z (WL_nil (WQ_code (WC_seq (WCr (WLa Z (WLa Z (WLa Z (WL_set (s := 10) (v := .bool false) Z (by simp <;> omega) ?_))))))))))
 refine WLa Z (WLa Z (WLa Z (WLa Z (WL_set (s := 14) (v := .bool false) Z (by simp <;> omega) ?_))))
 refine WLa Z (WLa Z (WLa Z (WLa Z (WL_set (s := 18) (v := .bool false) Z (by simp <;> omega) ?_))))
 refine WLa Z (WLa Z (WLa Z (WLa Z (WL_set (s := 22) (v := .bool false) Z (by simp <;> omega) ?_))))
 refine WLa Z (WLa Z (WLa Z (WL_nil (WQ_code (WC_dF Z (by omega) ?_)))))
 refine WC_skip (WQ_code (WCr (WL_none 143 ?_)))
 refine WLa Z (WLa Z (WLa Z (WLc Z (qnew_ok) Z pqZ ?_)))
 rintro _ _ ⟨_, ⟨pq, pm, rfl, rfl⟩, rfl⟩
 refine WLd Z (D_makeMap Z) ?_
 rintro _ _ ⟨mb, rfl, rfl⟩
 refine WLv Z (R_build (cs := pC ⟨0, pq, pm, #[], 0, mb, #[], 0, none, 0, 0, [], []⟩ (PS.new op most keep)) Z zv136 pl136 Z (by kernel_rfl)) ?_
 refine WLd Z (D_box (cs := pC ⟨0, pq, pm, #[], 0, mb, #[], 0, none, 0, 0, [], []⟩ (PS.new op most keep)) Z Z Z) ?_
 rintro _ _ ⟨b1, rfl, rfl⟩
 refine WLa Z (WLa Z (WL_nil (WQ_code (WC_ret ?_))))
 refine WQ2 Z (by
   exact ⟨(⟨b1, pq, pm, #[], 0, mb, #[], 0, none, 0, 0, [], []⟩ : PM), rfl, rfl, PIs.new b1 pq pm mb h1 h2 h3⟩) pqZ
abbrev xsetL (k : Int) (oa : Option Addr) (n c : Nat) (limit : Int) (brk : Nat) (op idle : Int) (keep : Nat) (p : Plan) : List Value := [.int .i64 k, .slice oa n c, .int .i64 limit, .int .u64 (brk : Int), .int .i64 op, .int .i64 idle, .int .u64 (keep : Int), .int .u64 (p.base : Int), .int .u64 (p.most : Int), .int .i64 p.num, .int .i64 p.den, .int .i64 p.tries, .int .i64 p.jit, .int .u32 (p.seed : Int)]
abbrev VOkB (k : Int) (W : List Int) (limit : Int) (op : Nat) : Prop := (1 ≤ k ∧ k ≤ 4) ∧ (1 ≤ W.length ∧ W.length ≤ 64) ∧ (∀ w ∈ W, 1 ≤ w ∧ w ≤ 100) ∧ OkR limit 1 op
abbrev POk (op idle : Int) (keep : Nat) : Prop := (1 ≤ op ∧ op ≤ 64) ∧ (0 ≤ idle ∧ idle ≤ 64) ∧ 1 ≤ keep
def px0 (k : Nat) (W : List Int) (limit : Int) (brk : Nat) (op idle : Int) (keep : Nat) (p : Plan) : PX := ⟨bs0 k W limit brk, List.replicate W.length (PS.new op.toNat idle.toNat keep), p, 0, [], []⟩
theorem xbnew_bad (k : Int) (W : List Int) (oa : Option Addr) (c : Nat) (ent : Ent) (ha : Rd oa ent W) (limit : Int) (op : Nat) (h : ¬ VOkB k W limit op) : Spec Tryz.prog 26 [.int .i64 k, .slice oa W.length c, .int .i64 limit, .int .u64 (op : Int)] [ent] (fun r H' => r = .tuple #[.pointer none, .int .i64 2] ∧ H' = [ent]) := by
 by_cases h1 : k < 1 ∨ 4 < k
 ·exact bnew_badK k h1 W oa c ent ha limit op
 obtain ⟨k, rfl⟩ := Int.eq_ofNat_of_zero_le (show 0 ≤ k by omega)
 have hk : 1 ≤ k ∧ k ≤ 4 := by omega
 by_cases h2 : W.length = 0 ∨ 64 < W.length
 ·exact bnew_badN k hk W oa c ent ha limit op h2
 have h3 : 1 ≤ W.length ∧ W.length ≤ 64 := by omega
 by_cases hR : OkR limit 1 op
 ·by_cases hW : ∀ w ∈ W, 1 ≤ w ∧ w ≤ 100
  ·exact absurd ⟨by omega, h3, hW, hR⟩ h
  ·exact bnew_badW k hk W oa c ent ha limit op h3 hR hW
 ·exact bnew_badR k hk W oa c ent ha limit op h3 hR
theorem xbnew_ok (k : Nat) (W : List Int) (oa : Option Addr) (c : Nat) (ent : Ent) (ha : Rd oa ent W) (limit : Int) (op : Nat) (h : VOkB (k : Int) W limit op) : Spec Tryz.prog 26 [.int .i64 (k : Int), .slice oa W.length c, .int .i64 limit, .int .u64 (op : Int)] [ent]
  (fun r H' => ∃ m, r = .tuple #[ptrB m.p, .int .i64 0] ∧ H' = ent :: balH m ∧ BIs 0 m (bs0 k W limit op)) :=
 (bnew_ok k ⟨by omega, by omega⟩ W oa c ent ha limit op h.2.1 h.2.2.2 h.2.2.1).mono fun r H' ⟨m, h1, h2, h3, h4, h5, h6, h7, h8, h9⟩ => ⟨m, h1, h2, h3, h4, h9, h6, h7, h8⟩
structure XnW where
 j : Nat
 L : List PM
 B : Heap
 o : Option Nat
 c : Nat
 t : List Value
theorem poolsH_snoc : ∀ {ms : List PM} {ss : List PS} {m : PM} {s : PS}, ms.length = ss.length → poolsH (ms ++ [m]) (ss ++ [s]) = poolsH ms ss ++ poH m s
 | [], [], m, s, _ => by show poH m s ++ [] = _; rw [List.append_nil]; rfl
 | [], _ :: _, _, _, h => by simp at h
 | _ :: _, [], _, _, h => by simp at h
 | a :: ms, b :: ss, m, s, h => by
  show poH a b ++ poolsH (ms ++ [m]) (ss ++ [s]) = (poH a b ++ poolsH ms ss) ++ poH m s
  rw [poolsH_snoc (by simpa using h), List.append_assoc]
theorem xnew_bad1 (k : Int) (W : List Int) (oa : Option Addr) (c : Nat) (ent : Ent) (ha : Rd oa ent W) (limit : Int) (brk : Nat) (op idle : Int) (keep : Nat) (p : Plan) (h : ¬ VOkB k W limit brk) : Spec Tryz.prog 9 [.agg (xsetL k oa W.length c limit brk op idle keep p).toArray] [ent] (fun r H' => r = .tuple #[.pointer none, .int .i64 2] ∧ H' = [ent]) := by
 refine Spec.of (E := [(0, .agg (xsetL k oa W.length c limit brk op idle keep p).toArray)]) Tryz.func9 rfl (by kernel_rfl) Tryz.ntmps9 rfl rfl (fun w => ?_)
 refine WCr (WLd Z (D_box (cs := [_, _, _, _, _, _, _, _, _, _, _, _, _, _]) Z Z Z) ?_)
 rintro _ _ ⟨b1, rfl, rfl⟩
 refine WLa Z (WLa Z (WL_nil (WQ_code (WCr (WLf Z fa30_0 (WLl Z sc22 mmD Z (WLf Z fa30_1 (WLl Z sc23 mmD Z (WLf Z fa30_2 (WLl Z sc3 mmD Z (WLf Z fa30_3 (WLl Z sc25 mmD Z (WLc Z (xbnew_bad k W oa c ent ha limit brk h) Z pqD ?_)))))))))))))
 rintro _ _ ⟨_, ⟨rfl, rfl⟩, rfl⟩
 refine WLa Z (WLa Z (WLa Z (WLa Z (WLa Z (WL_nil (WQ_code (WC_seq (WCr (WLa Z (WLa Z (WLa Z (WL_set (s := 23) (v := .bool true) Z (by rfl) ?_))))))))))))
 refine WLa Z (WLa Z (WLa Z (WLa Z (WLa Z (WL_nil (WQ_code (WC_T Z (WCr (WLa Z (WLa Z (WL_nil (WQ_code (WC_ret ?_)))))))))))))
 refine WQ2 Z (by
   exact ⟨rfl, rfl⟩) pqD
theorem xnew_bad2 (k : Nat) (W : List Int) (oa : Option Addr) (c : Nat) (ent : Ent) (ha : Rd oa ent W) (limit : Int) (brk : Nat) (op idle : Int) (keep : Nat) (p : Plan) (h : VOkB (k : Int) W limit brk) (hp : ¬ OkP p) : Spec Tryz.prog 9 [.agg (xsetL (k : Int) oa W.length c limit brk op idle keep p).toArray] [ent] (fun r H' => r = .tuple #[.pointer none, .int .i64 2] ∧ H' = [ent]) := by
 refine Spec.of (E := [(0, .agg (xsetL (k : Int) oa W.length c limit brk op idle keep p).toArray)]) Tryz.func9 rfl (by kernel_rfl) Tryz.ntmps9 rfl rfl (fun w => ?_)
 refine WCr (WLd Z (D_box (cs := [_, _, _, _, _, _, _, _, _, _, _, _, _, _]) Z Z Z) ?_)
 rintro _ _ ⟨b1, rfl, rfl⟩
 refine WLa Z (WLa Z (WL_nil (WQ_code (WCr (WLf Z fa30_0 (WLl Z sc22 mmD Z (WLf Z fa30_1 (WLl Z sc23 mmD Z (WLf Z fa30_2 (WLl Z sc3 mmD Z (WLf Z fa30_3 (WLl Z sc25 mmD Z (WLc Z (xbnew_ok k W oa c ent ha limit brk h) Z pqD ?_)))))))))))))
 rintro _ _ ⟨_, ⟨bm, rfl, rfl, hbm⟩, rfl⟩
 refine WLa Z (WLa Z (WLa Z (WLa Z (WLa Z (WL_nil (WQ_code (WC_seq (WCr (WLa Z (WLa Z (WLa Z (WL_set (s := 23) (v := .bool false) Z (by rfl) ?_))))))))))))
 refine WLf Z fa30_7 (WLv Z (R_loadA (vs := [_, _, _, _, _, _, _]) Z ag28 Z mmD Z ((atZ : At _ 7 [_, _, _, _, _, _, _]))) ?_)
 refine WLq Z (valid_ok p) Z pqD ?_
 refine WL_set (s := 26) (v := .bool false) Z (by exact congrArg Value.bool (decide_eq_false hp)) ?_
 refine WLa Z (WLa Z (WL_nil (WQ_code (WC_T Z (WCr (WLa Z (WLa Z (WL_nil (WQ_code (WC_ret ?_))))))))))
 refine WQ2 Z (by
   exact ⟨rfl, rfl⟩) pqD
theorem xnew_bad3 (k : Nat) (W : List Int) (oa : Option Addr) (c : Nat) (ent : Ent) (ha : Rd oa ent W) (limit : Int) (brk : Nat) (op idle : Int) (keep : Nat) (p : Plan) (h : VOkB (k : Int) W limit brk) (hp : OkP p) (hq : ¬ POk op idle keep) : Spec Tryz.prog 9 [.agg (xsetL (k : Int) oa W.length c limit brk op idle keep p).toArray] [ent] (fun r H' => r = .tuple #[.pointer none, .int .i64 2] ∧ H' = [ent]) := by
 have hWl := h.2.1
 refine Spec.of (E := [(0, .agg (xsetL (k : Int) oa W.length c limit brk op idle keep p).toArray)]) Tryz.func9 rfl (by kernel_rfl) Tryz.ntmps9 rfl rfl (fun w => ?_)
 refine WCr (WLd Z (D_box (cs := [_, _, _, _, _, _, _, _, _, _, _, _, _, _]) Z Z Z) ?_)
 rintro _ _ ⟨b1, rfl, rfl⟩
 refine WLa Z (WLa Z (WL_nil (WQ_code (WCr (WLf Z fa30_0 (WLl Z sc22 mmD Z (WLf Z fa30_1 (WLl Z sc23 mmD Z (WLf Z fa30_2 (WLl Z sc3 mmD Z (WLf Z fa30_3 (WLl Z sc25 mmD Z (WLc Z (xbnew_ok k W oa c ent ha limit brk h) Z pqD ?_)))))))))))))
 rintro _ _ ⟨_, ⟨bm, rfl, rfl, hbm⟩, rfl⟩
 refine WLa Z (WLa Z (WLa Z (WLa Z (WLa Z (WL_nil (WQ_code (WC_seq (WCr (WLa Z (WLa Z (WLa Z (WL_set (s := 23) (v := .bool false) Z (by rfl) ?_))))))))))))
 refine WLf Z fa30_7 (WLv Z (R_loadA (vs := [_, _, _, _, _, _, _]) Z ag28 Z mmD Z ((atZ : At _ 7 [_, _, _, _, _, _, _]))) ?_)
 refine WLq Z (valid_ok p) Z pqD ?_
 refine WL_set (s := 26) (v := .bool true) Z (by exact congrArg Value.bool (decide_eq_true hp)) ?_
 refine WLa Z (WLa Z (WL_nil (WQ_code (WC_F Z (WC_skip (WQ_code (WCr (WLa Z (WLf Z fa30_7 (WLv Z (R_loadA (vs := [_, _, _, _, _, _, _]) Z ag28 Z mmD Z ((atZ : At _ 7 [_, _, _, _, _, _, _]))) ?_))))))))))
 refine WLd Z (D_makeMap Z) ?_
 rintro _ _ ⟨mb, rfl, rfl⟩
 refine WLv Z (R_build Z zv68 pl68 Z Z) ?_
 refine WLd Z (D_box (cs := [_, _, _, _, _, _, _, _, _, _, _, _]) Z Z Z) ?_
 rintro _ _ ⟨b2, rfl, rfl⟩
 refine WLa Z (WL_nil (WQ_code (WC_seq (WCr (WLf Z fa30_1 (WLl Z sc23 mmD Z (WLv Z (R_len Z Tryz.underlying23 Z) ?_)))))))
 refine WLa Z (WL_nil (WQ_code (WC_block (WC_loopF (G := Unit) [2, 3, 7, 8, 38, 39, 40, 41, 42, 43, 44, 45, 46, 47, 48, 49, 50, 51, 52, 53, 54, 55, 56, 57, 58, 59, 60, 61, 62] (fun y => True) (fun y => [(38, .int .i64 0)]) (fun y => []) (fun y => 0) (()) (trivial) leZ pqD ?_))))
 rintro y _
 refine WCr (WLa Z (WL_nil (WQ_code (WC_seq (WC_dT Z (by omega) ?_)))))
 refine WC_skip (WQ_code (WC_seq (WC_block (WCr (WLf Z fa30_4 (WLl Z sc3 mmD Z (WLf Z fa30_5 (WLl Z sc3 mmD Z (WLf Z fa30_6 (WLl Z sc25 mmD Z (WLc Z (pnew_bad op idle keep (by unfold POk at hq; omega)) Z pqD ?_)))))))))))
 rintro _ _ ⟨_, ⟨rfl, rfl⟩, rfl⟩
 refine WLa Z (WLa Z (WLa Z (WLa Z (WLa Z (WL_nil (WQ_code (WC_seq (WCr (WLa Z (WLa Z (WL_nil (WQ_code (WC_dT Z (by decide) ?_)))))))))))))
 refine WCr (WLa Z (WLa Z (WL_nil (WQ_code (WC_ret ?_)))))
 refine WQ2 Z (by
   exact ⟨rfl, rfl⟩) pqD
theorem xnew_ok (k : Nat) (W : List Int) (oa : Option Addr) (c : Nat) (ent : Ent) (ha : Rd oa ent W) (limit : Int) (brk : Nat) (op idle : Int) (keep : Nat) (p : Plan) (h : VOkB (k : Int) W limit brk) (hp : OkP p) (hq : POk op idle keep) (hsd : p.seed < 4294967296) (hkp : keep ≤ 18446744073709551615) : Spec Tryz.prog 9 [.agg (xsetL (k : Int) oa W.length c limit brk op idle keep p).toArray] [ent]
  (fun r H' => ∃ m, r = .tuple #[ptrP m.p, .int .i64 0] ∧ H' = ent :: pxH m (px0 k W limit brk op idle keep p) ∧ PXIs 0 m (px0 k W limit brk op idle keep p)) := by
 have hWl := h.2.1
 obtain ⟨⟨hq1, hq2⟩, ⟨hq3, hq4⟩, hq5⟩ := hq
 refine Spec.of (E := [(0, .agg (xsetL (k : Int) oa W.length c limit brk op idle keep p).toArray)]) Tryz.func9 rfl (by kernel_rfl) Tryz.ntmps9 rfl rfl (fun w => ?_)
 refine WCr (WLd Z (D_box (cs := [_, _, _, _, _, _, _, _, _, _, _, _, _, _]) Z Z Z) ?_)
 rintro _ _ ⟨b1, rfl, rfl⟩
 refine WLa Z (WLa Z (WL_nil (WQ_code (WCr (WLf Z fa30_0 (WLl Z sc22 mmD Z (WLf Z fa30_1 (WLl Z sc23 mmD Z (WLf Z fa30_2 (WLl Z sc3 mmD Z (WLf Z fa30_3 (WLl Z sc25 mmD Z (WLc Z (xbnew_ok k W oa c ent ha limit brk h) Z pqD ?_)))))))))))))
 rintro _ _ ⟨_, ⟨bm, rfl, rfl, hbm⟩, rfl⟩
 refine WLa Z (WLa Z (WLa Z (WLa Z (WLa Z (WL_nil (WQ_code (WC_seq (WCr (WLa Z (WLa Z (WLa Z (WL_set (s := 23) (v := .bool false) Z (by rfl) ?_))))))))))))
 refine WLf Z fa30_7 (WLv Z (R_loadA (vs := [_, _, _, _, _, _, _]) Z ag28 Z mmD Z ((atZ : At _ 7 [_, _, _, _, _, _, _]))) ?_)
 refine WLq Z (valid_ok p) Z pqD ?_
 refine WL_set (s := 26) (v := .bool true) Z (by exact congrArg Value.bool (decide_eq_true hp)) ?_
 refine WLa Z (WLa Z (WL_nil (WQ_code (WC_F Z (WC_skip (WQ_code (WCr (WLa Z (WLf Z fa30_7 (WLv Z (R_loadA (vs := [_, _, _, _, _, _, _]) Z ag28 Z mmD Z ((atZ : At _ 7 [_, _, _, _, _, _, _]))) ?_))))))))))
 refine WLd Z (D_makeMap Z) ?_
 rintro _ _ ⟨mb, rfl, rfl⟩
 refine WLv Z (R_build Z zv68 pl68 Z Z) ?_
 refine WLd Z (D_box (cs := [_, _, _, _, _, _, _, _, _, _, _, _]) Z Z Z) ?_
 rintro _ _ ⟨b2, rfl, rfl⟩
 refine WLa Z (WL_nil (WQ_code (WC_seq (WCr (WLf Z fa30_1 (WLl Z sc23 mmD Z (WLv Z (R_len Z Tryz.underlying23 Z) ?_)))))))
 refine WLa Z (WL_nil (WQ_code (WC_block (WC_none 63 ?_))))
 refine WC_none 79 ?_
 refine WC_loopF (G := XnW) [2, 3, 7, 8, 38, 39, 40, 41, 42, 43, 44, 45, 46, 47, 48, 49, 50, 51, 52, 53, 54, 55, 56, 57, 58, 59, 60, 61, 62] (fun y => y.j ≤ W.length ∧ y.L.length = y.j ∧ (∀ q ∈ y.L, PIs q (PS.new op.toNat idle.toNat keep)) ∧ y.B = poolsH y.L (List.replicate y.j (PS.new op.toNat idle.toNat keep)) ∧ Own y.o y.L.length y.c 1 (y.L.flatMap (fun q => [ptrP q.p])) y.t) (fun y => [(38, .int .i64 (y.j : Int))]) (fun y => [⟨some b2, cl ([ptrB bm.p, slV y.o y.L.length y.c] ++ plL p ++ [.int .u64 0, .map (some mb), .slice none 0 0]) 68⟩, ⟨y.o, cl (y.L.flatMap (fun q => [ptrP q.p]) ++ y.t) 79⟩] ++ y.B) (fun y => W.length - y.j) (⟨0, [], [], none, 0, []⟩) (⟨Nat.zero_le _, Z, fun q hq => (by cases hq), Z, Own.empty 1⟩) leZ pqD ?_
 rintro y ⟨hyj, hyL, hyp, hyB, hyo⟩
 refine WCr (WLa Z (WL_nil (WQ_code (WC_seq ?_))))
 refine WC_dec Z (fun c1 => ?_) (fun c1 => ?_)
 ·refine WC_skip (WQ_code (WC_seq (WC_block (WCr (WLf Z fa30_4 (WLl Z sc3 mmD Z (WL_set (s := 42) (v := .int .i64 ((op.toNat : Nat) : Int)) Z (by rw [Int.toNat_of_nonneg (by omega)]) ?_)))))))
  refine WLf Z fa30_5 (WLl Z sc3 mmD Z (WL_set (s := 44) (v := .int .i64 ((idle.toNat : Nat) : Int)) Z (by rw [Int.toNat_of_nonneg (by omega)]) ?_))
  refine WLf Z fa30_6 (WLl Z sc25 mmD Z (WLc Z (pnew_ok op.toNat idle.toNat keep ⟨by omega, by omega⟩ (by omega) ⟨hq5, hkp⟩) Z pqD ?_))
  rintro _ _ ⟨_, ⟨pm9, rfl, rfl, hpm9⟩, rfl⟩
  refine WLa Z (WLa Z (WLa Z (WLa Z (WLa Z (WL_nil (WQ_code (WC_seq (WCr (WLa Z (WLa Z (WL_nil (WQ_code (WC_dF Z (by decide) ?_)))))))))))))
  refine WC_skip (WQ_code (WC_region (WLa Z (WLa Z (WLa Z (WLf Z fa68_1 (WLl Z sc56 mmD Z (WLa Z (WLd Z (D_buildSlice Z si56 Z Z Z) ?_)))))))))
  rintro _ _ ⟨b3, rfl, rfl⟩
  refine WLd Z (D_append Z si56 Z (hyo) plD Z mmD ((atZ : At _ 0 [_])) (Z) (Z) (by omega) (by omega)) ?_
  rintro _ _ ⟨ob4, cap4, tl4, rfl, own4, rfl⟩
  rw [show y.L.flatMap (fun q => [ptrP q.p]) ++ [ptrP pm9.p] = (y.L ++ [pm9]).flatMap (fun q => [ptrP q.p]) from by simp, show y.L.length + 1 = (y.L ++ [pm9]).length from by simp] at own4 ⊢
  refine WLa Z (WLf Z fa68_1 (WLs (vs := [_]) Z Tryz.sizeOf56 Z Z plD (nb Z) ?_))
  refine WL_nil (WQ_code (WC_region (WLv Z (R_add Z Z Z (by omega)) ?_)))
  refine WLa Z (WL_nil ?_)
  refine WQ_nextF (⟨y.j + 1, y.L ++ [pm9], y.B ++ poH pm9 (PS.new op.toNat idle.toNat keep), ob4, cap4, tl4⟩) (⟨by dsimp only; omega, by dsimp only; rw [List.length_append, hyL]; rfl, fun q hq => by rcases List.mem_append.1 hq with hq | hq; exact hyp q hq; rw [List.mem_singleton.1 hq]; exact hpm9, by dsimp only; rw [hyB, List.replicate_succ', poolsH_snoc (by rw [List.length_replicate, hyL])], own4⟩) (by dsimp only; omega) leZ (psZ) Z pqD
 ·have hjl : y.j = W.length := by omega
  refine WC_exit (WQ_code (WCr (WLa Z (WLa Z (WLa Z (WL_nil (WQ_code (WC_ret ?_))))))))
  rw [hjl] at hyL hyB
  rw [hyB, hyL]
  have hlen : (px0 k W limit brk op idle keep p).P.length = W.length := List.length_replicate ..
  have hpx : pxH (⟨b2, bm, y.L, y.o, y.c, y.t, mb, #[], 0, none, 0, 0, [], []⟩ : XM) (px0 k W limit brk op idle keep p) = [⟨some b2, cl ([ptrB bm.p, slV y.o W.length y.c] ++ plL p ++ [.int .u64 0, .map (some mb), .slice none 0 0]) 68⟩, ⟨some mb, .map #[] 0⟩, ⟨none, cl [] 63⟩, ⟨y.o, cl (y.L.flatMap (fun q => [ptrP q.p]) ++ y.t) 79⟩] ++ (balH bm ++ poolsH y.L (List.replicate W.length (PS.new op.toNat idle.toNat keep))) := by
   unfold pxH pxE pxC
   rw [hlen]; rfl
  refine WQ2 Z (by
    exact ⟨(⟨b2, bm, y.L, y.o, y.c, y.t, mb, #[], 0, none, 0, 0, [], []⟩ : XM), rfl, (congrArg (List.cons ent) hpx).symm, ⟨hbm, by rw [hlen]; exact hyL, fun i mi si h1 h2 => by (have h3 := List.mem_of_getElem? h2); rw [List.eq_of_mem_replicate h3]; exact hyp mi (List.mem_of_getElem? h1), by rw [hlen, ← hyL]; exact hyo, Mk.empty, OwnS.empty 5, hp, hsd, fun s hs => (by cases hs), by rw [hlen]; show (bs0 k W limit brk).V.length = _; unfold bs0; rw [List.length_map], Nat.zero_le _⟩⟩) pqD
theorem WQ_shape {X : Ctx} {K : Act → World → Prop} {E : Env} {H A A' F : Heap} (q : Pulls A H F) (hp : A.Perm A') (h : WQ X K E (A' ++ F)) : WQ X K E H := fun a w ha hw => h a w ha (hw.perm (q.perm.trans (hp.append_right F)))
def dueK (S : List Ss) (ys : List Int) : Nat := ys.foldl (fun a k => if (sesK S k).st = 1 then min a (sesK S k).til else a) 18446744073709551615
def dueV (S : List Ss) : Nat := S.foldl (fun a s => if s.st = 1 then min a s.til else a) 18446744073709551615
theorem dueK_snoc (S : List Ss) (ys : List Int) (k : Int) : dueK S (ys ++ [k]) = if (sesK S k).st = 1 then min (dueK S ys) (sesK S k).til else dueK S ys := by unfold dueK; rw [List.foldl_append]; rfl
theorem dueK_perm {S : List Ss} (hn : (S.map (·.num)).Nodup) {ys : List Int} (h : ys.Perm ((sesM S).map (·.1))) : dueK S ys = dueV S := by
 have h1 : dueK S ys = dueK S (S.map (·.num)) := by
  rw [sesM_keys] at h
  exact h.foldl_eq' (fun x _ y _ z => by (repeat' split) <;> omega) _
 rw [h1]
 unfold dueK dueV
 rw [List.foldl_map]
 have key : ∀ (L : List Ss) (a : Nat), (∀ s ∈ L, s ∈ S) → L.foldl (fun a s => if (sesK S s.num).st = 1 then min a (sesK S s.num).til else a) a = L.foldl (fun a s => if s.st = 1 then min a s.til else a) a := by
  intro L
  induction L with
  | nil => intro a _; rfl
  | cons s r ih =>
   intro a hL
   rw [List.foldl_cons, List.foldl_cons, sesK_at hn (hL s (List.mem_cons_self ..))]
   exact ih _ fun q hq => hL q (List.mem_cons_of_mem _ hq)
 exact key S _ fun s hs => hs
theorem xdue_ok {N : Nat} {m : XM} {x : PX} (h : PXIs N m x) (hn : (x.S.map (·.num)).Nodup) : Spec Tryz.prog 22 [ptrP m.p] ([pxE m x, pxM m] ++ ssH x.S) (fun r H' => r = .int .u64 (dueV x.S : Int) ∧ H' = [pxE m x, pxM m] ++ ssH x.S) := by
 have hM := h.mp
 refine Spec.of (E := [(0, ptrP m.p)]) Tryz.func22 rfl (by kernel_rfl) Tryz.ntmps22 rfl rfl (fun w => ?_)
 refine WCr (WLa Z (WL_nil (WQ_code (WCr (WLa Z (WL_nil (WQ_code (WC_seq (WCr (WLa Z (WLv Z (R_ptrEqNil Z Tryz.underlying33 Z) ?_)))))))))))
 refine WL_nil (WQ_code (WC_F Z (WC_skip (WQ_code (WC_seq (WCr (WLa Z (WLa Z (WLf Z fa68_4 (WLl Z sc66 mmD Z (WLd Z (D_rangeMap Z Tryz.underlying66 Z mmD) ?_)))))))))))
 rintro _ _ ⟨bi, rfl, rfl⟩
 refine WL_nil (WQ_code (WC_block (WC_loopF (G := KyG Int) [3, 5, 14, 15, 16, 17, 18, 19, 20, 21, 22, 23, 24, 25, 26, 27, 28] (fun y => KsG ekW (sesM x.S) m.ses y.seen y.ys) (fun y => [(3, .int .u64 (dueK x.S y.ys : Int))]) (fun y => [⟨some bi, .mapIter (some m.sb) m.smc y.seen m.smc⟩]) (fun y => (sesM x.S).length - y.ys.length) (⟨#[], [], []⟩) (KsG.new ekW (sesM x.S) m.ses) leZ pqD ?_)))
 rintro y hks
 refine WCr (WLd Z (D_nextMap Z Z plD mmD hM.born) ?_)
 rintro _ _ (⟨rfl, rfl, hall⟩ | ⟨e, he, hns, rfl, rfl⟩)
 ·refine WLa Z (WL_set (s := 15) (v := .bool false) Z (by rfl) ?_)
  refine WL_nil (WQ_code (WC_seq (WC_F Z (WC_exit (WQ_code (WCr (WLa Z (WLa Z (WL_nil (WQ_code (WC_ret ?_)))))))))))
  rw [dueK_perm hn (hks.done hM hall)]
  refine WQ1 Z (by
    exact ⟨rfl, rfl⟩) pqD
 ·refine WLa Z (WL_set (s := 15) (v := .bool true) Z (by rfl) ?_)
  refine WL_nil (WQ_code (WC_seq (WC_T Z (WC_skip (WQ_code (WC_block (WCr ?_)))))))
  obtain ⟨⟨k, v9⟩, hx, hek, hev⟩ := hM.back he
  dsimp only at hek hev
  obtain ⟨hmay, hks2⟩ := hks.next ekW_inj hM he hns hek
  obtain ⟨s, hs, hsx⟩ := List.mem_map.1 hx
  obtain ⟨rfl, rfl⟩ := Prod.mk.inj hsx
  obtain ⟨A, B, hS⟩ := List.append_of_mem hs
  have hsk := sesK_at hn hs
  refine WLv Z (R_entryMap Z Z mmD mmD he hM.bnd) ?_
  rw [hek, hev]
  refine WLa Z (WLa Z (WL_nil (WQ_code (WCr (WLa Z ?_)))))
  have hpm9 : (ssH x.S).Perm (seE s :: ssH (A ++ B)) := by rw [hS]; exact ssH_split A B s
  refine WL_shape (A := ssH x.S) pqD hpm9 ?_
  refine WLa Z (WLf Z fa90_4 (WLl Z sc49 mmD Z (WLa Z (WL_nil (WQ_code ?_)))))
  refine WC_dec Z (fun c1 => ?_) (fun c1 => ?_)
  ·have hc9 : s.st = 1 := c1
   refine WC_region (WLa Z (WLa Z (WLa Z (WLf Z fa90_5 (WLl Z sc25 mmD Z (WLv Z (R_min Z Z Z) ?_))))))
   refine WL_set (s := 28) (v := .int .u64 ((dueK x.S (y.ys ++ [s.num]) : Nat) : Int)) Z (by exact congrArg (Value.int .u64) (by rw [dueK_snoc, hsk, if_pos hc9]; omega)) ?_
   refine WLa Z (WL_nil (WQ_shape (A := seE s :: ssH (A ++ B)) pqD hpm9.symm ?_))
   refine WQ_nextF (gg := y) (⟨y.seen.push e.born, y.ys ++ [s.num], []⟩) (hks2) (by have := hks2.len; rw [List.length_append, List.length_singleton] at this; dsimp only; rw [List.length_append, List.length_singleton]; omega) leZ (psZ) Z pqD
  ·have hc9 : ¬ s.st = 1 := c1
   refine WC_set (s := 3) (v := .int .u64 ((dueK x.S (y.ys ++ [s.num]) : Nat) : Int)) Z (by rw [dueK_snoc, hsk, if_neg hc9]) ?_
   refine WC_skip (WQ_shape (A := seE s :: ssH (A ++ B)) pqD hpm9.symm ?_)
   refine WQ_nextF (gg := y) (⟨y.seen.push e.born, y.ys ++ [s.num], []⟩) (hks2) (by have := hks2.len; rw [List.length_append, List.length_singleton] at this; dsimp only; rw [List.length_append, List.length_singleton]; omega) leZ (psZ) Z pqD
theorem xdue_all {N : Nat} {m : XM} {x : PX} (h : PXIs N m x) (hn : (x.S.map (·.num)).Nodup) : Spec Tryz.prog 22 [ptrP m.p] (pxH m x) (fun r H' => r = .int .u64 (dueV x.S : Int) ∧ H' = pxH m x) := by
 have hp : (pxH m x).Perm (([pxE m x, pxM m] ++ ssH x.S) ++ ([pxV m x, pxQ m] ++ (balH m.bm ++ poolsH m.pm x.P))) := by
  refine List.Perm.cons _ (List.Perm.cons _ ?_)
  show ([pxV m x, pxQ m] ++ (ssH x.S ++ (balH m.bm ++ poolsH m.pm x.P))).Perm (ssH x.S ++ ([pxV m x, pxQ m] ++ (balH m.bm ++ poolsH m.pm x.P)))
  exact List.perm_append_comm_assoc _ _ _
 refine Spec.re ((((xdue_ok h hn).fr _).perm hp).mono ?_)
 rintro r H' ⟨H1, ⟨hr, rfl⟩, rfl⟩
 exact ⟨pxH m x, hp.symm, hr, rfl⟩
theorem sum_set {f : PS → Nat} : ∀ {P : List PS} {i : Nat} {si : PS} (s' : PS), P[i]? = some si → ((P.set i s').map f).sum + f si = (P.map f).sum + f s'
 | [], _, _, _, h => by simp at h
 | a :: r, 0, si, s', h => by
  simp at h; subst h
  simp only [List.set_cons_zero, List.map_cons, List.sum_cons]; omega
 | a :: r, i + 1, si, s', h => by
  have ih := sum_set (f := f) (P := r) (i := i) (si := si) s' (by simpa using h)
  simp only [List.set_cons_succ, List.map_cons, List.sum_cons]; omega
abbrev lat (S : List Ss) : Nat := S.countP (fun s => decide (s.st = 1))
def wP (P : List PS) : Nat := (P.map wt).sum
theorem wP_at : ∀ {P : List PS} {i : Nat} {si : PS}, P[i]? = some si → wt si ≤ wP P
 | [], _, _, h => by simp at h
 | a :: r, 0, si, h => by simp at h; subst h; simp [wP]
 | a :: r, i + 1, si, h => by
  have ih := wP_at (P := r) (i := i) (si := si) (by simpa using h)
  unfold wP at ih ⊢
  rw [List.map_cons, List.sum_cons]; omega
theorem lat_mid (A B : List Ss) (s : Ss) : lat (A ++ s :: B) = lat (A ++ B) + (if s.st = 1 then 1 else 0) := by
 unfold lat
 rw [List.countP_append, List.countP_append, List.countP_cons]
 by_cases h : s.st = 1
 ·rw [if_pos (decide_eq_true h), if_pos h]; omega
 ·rw [if_neg (by simpa using h), if_neg h]; omega
def wX (x : PX) : Nat := wP x.P + lat x.S
theorem dialed_lost_w {s : PS} (h : PH s) (c : Int) (now : Nat) : wt (s.dialed c false now) ≤ wt s := by
 by_cases he : s.inE c 1 now = 0
 ·obtain ⟨k, x, rfl, _, hx, hst, _⟩ := inE_zero he
  rw [dialed_lost he]
  have r := (lose_R (h.at_ now) hx (by rw [hst]; decide)).w
  have h9 : wt (s.at_ now) = wt s := rfl
  omega
 ·rw [dialed_no he]; exact Nat.le_refl _
theorem dialed_w {s : PS} (h : PH s) (c : Int) (made : Bool) (now : Nat) : wt (s.dialed c made now) ≤ wt s + 1 := by
 by_cases he : s.inE c 1 now = 0
 ·obtain ⟨k, _, _, _, r⟩ := dialed_R h he made; exact r.w
 ·rw [dialed_no he]; exact Nat.le_succ _
theorem put_w {s : PS} (h : PH s) (c : Int) (good : Bool) (now : Nat) : wt (s.put c good now) ≤ wt s + 1 := by
 by_cases he : s.inE c 2 now = 0
 ·obtain ⟨k, _, _, _, r⟩ := put_R h he good; exact r.w
 ·rw [put_no he]; exact Nat.le_succ _
theorem adv_w {s : PS} (h : PH s) (now : Nat) : wt (s.advance now) ≤ wt s := by
 by_cases hm : s.may true now = 0
 ·rw [adv_ok hm]
  have r1 : AdR (s.at_ now) (s.adv1 now) := tmos_R (s.late now) (h.at_ now)
  have r2 := shuts_R ((s.adv1 now).old now) r1.ph (old_nodup _ _) fun a ha => (old_mem ha).1
  have := (r1.trans r2).w
  have h9 : wt (s.at_ now) = wt s := rfl
  omega
 ·rw [adv_no hm]; exact Nat.le_refl _
theorem get_w {s : PS} (h : PH s) (who : Int) (now dl : Nat) : wt (s.getS who now dl) ≤ wt s + 1 := by
 by_cases he : getE_ s who now dl = 0
 ·exact (get_ev h he).2.1
 ·rw [(get_err he).1]; exact Nat.le_succ _
theorem adv_E {s : PS} (h : PH s) (now : Nat) : (s.advance now).E.length ≤ s.E.length + wt s := by
 by_cases hm : s.may true now = 0
 ·rw [adv_ok hm]
  have a1 := shuts_E ((s.adv1 now).old now) (s.adv1 now)
  have a2 := (tmo_rest (s.late now) (s.at_ now)).2.2.2.1
  have a3 := (late_perm s now).length_eq
  have a4 := List.length_filter_le (fun x : Qp => decide (x.dl ≤ now)) s.Q
  have a5 := old_len (s.adv1 now) now
  have a6 : (s.adv1 now).C = s.C := (tmo_rest (s.late now) (s.at_ now)).1
  have a7 : (s.adv1 now).E.length = s.E.length + (s.late now).length := a2
  have a8 : (allI 3 (s.adv1 now).C).length = cn 3 s.C := by rw [a6]; exact allF_cn 3 s.C 0
  unfold wt
  omega
 ·rw [adv_no hm]; exact Nat.le_add_right _ _
theorem lose_E (s : PS) (c : Nat) : (s.lose c).E.length ≤ s.E.length + 1 := next_E (s.set c ⟨0, 0, 0⟩)
theorem dialed_E (s : PS) (c : Int) (made : Bool) (now : Nat) : (s.dialed c made now).E.length ≤ s.E.length + 1 := by
 unfold PS.dialed
 split
 ·omega
 ·split
  ·exact Nat.le_succ _
  ·exact lose_E (s.at_ now) _
theorem put_E (s : PS) (c : Int) (good : Bool) (now : Nat) : (s.put c good now).E.length ≤ s.E.length + 2 := by
 by_cases h : s.inE c 2 now = 0
 ·obtain ⟨k, x, rfl, _⟩ := inE_zero h
  have h5 : (((s.at_ now).tell 5 (-1) (k : Int)).lose k).E.length ≤ s.E.length + 2 := by
   have := lose_E ((s.at_ now).tell 5 (-1) (k : Int)) k
   have h6 : ((s.at_ now).tell 5 (-1) (k : Int)).E.length = s.E.length + 1 := by show (s.E ++ [_]).length = _; rw [List.length_append]; rfl
   omega
  cases good with
  | false => rw [put_bad h]; exact h5
  | true =>
   cases hQ : s.Q with
   | cons a r => rw [put_use h hQ]; show (s.E ++ [_]).length ≤ _; rw [List.length_append, List.length_singleton]; omega
   | nil =>
    by_cases hl : (allI 3 s.C).length < s.most
    ·rw [put_idle h hQ hl]; show s.E.length ≤ _; omega
    ·rw [put_over h hQ hl]; exact h5
 ·rw [put_no h]; omega
theorem evS_le {x : PX} (h : PXG x) {b : Nat} (hB : PXB b x) (now : Nat) : evS now x.P ≤ wP x.P := by
 have key : ∀ (L : List PS), (∀ s ∈ L, PH s ∧ s.E = []) → evS now L ≤ wP L := by
  intro L
  induction L with
  | nil => intro _; exact Nat.le_refl _
  | cons s r ih =>
   intro hL
   obtain ⟨h1, h2⟩ := hL s (List.mem_cons_self ..)
   have a := adv_E h1 now
   rw [h2, List.length_nil] at a
   have b := ih fun q hq => hL q (List.mem_cons_of_mem _ hq)
   unfold evS wP at b ⊢
   rw [List.map_cons, List.sum_cons, List.map_cons, List.sum_cons]
   unfold evA at b ⊢
   omega
 refine key x.P fun s hs => ?_
 obtain ⟨j, hj⟩ := List.mem_iff_getElem?.1 hs
 exact ⟨(h.po j s hj).ph, (hB s hs).1⟩
theorem drainL_lat (i : Nat) : ∀ (n : Nat) (x : PX), PXG x → lat (PX.drainL i n x).S ≤ lat x.S
 | 0, _, _ => Nat.le_refl _
 | n + 1, x, h => by
  unfold PX.drainL
  split
  ·exact Nat.le_refl _
  ·rename_i si hi
   split
   ·exact Nat.le_refl _
   ·rename_i e r hE
    obtain ⟨hk, g2⟩ := drE_ok h hi hE
    refine Nat.le_trans (drainL_lat i n _ g2) ?_
    rcases hk with hk | ⟨hk, A, s9, B, hS, hw, hst9, _⟩
    ·rw [drE_5 hk]; exact Nat.le_refl _
    ·have h0 : lat x.S = lat (A ++ B) := by rw [hS, lat_mid, if_neg (by rw [hst9]; decide)]; rfl
     rcases hk with hk | hk | hk
     ·rw [drE_1 (x := x.nxP i si) h.nd hS hw.symm hk, h0]
      show lat (A ++ _ :: B) ≤ _
      rw [lat_mid, if_neg (by show ¬ (4 : Int) = 1; decide)]; exact Nat.le_refl _
     ·rw [drE_2 (x := x.nxP i si) h.nd hS hw.symm hk, h0]
      show lat (A ++ _ :: B) ≤ _
      rw [lat_mid, if_neg (by show ¬ (3 : Int) = 1; decide)]; exact Nat.le_refl _
     ·rw [drE_4 (x := x.nxP i si) h.nd hS hw.symm hk, h0]; exact Nat.le_refl _
theorem drain_lat {x : PX} (h : PXG x) (i : Nat) : lat (x.drain i).S ≤ lat x.S := by obtain ⟨n, e⟩ := drain_eqL x i; rw [e]; exact drainL_lat i n x h
theorem drain_wP {x : PX} {i : Nat} {si : PS} (hi : x.P[i]? = some si) : wP (x.drain i).P = wP x.P := by
 rw [drain_dry hi]
 have := sum_set (f := wt) { si with E := [] } hi
 have h9 : wt { si with E := [] } = wt si := rfl
 unfold wP
 omega
theorem drain_B {x : PX} {b : Nat} {i : Nat} {si : PS} (hi : x.P[i]? = some si) (hB : ∀ (j : Nat) (sj : PS), x.P[j]? = some sj → (j ≠ i → sj.E = []) ∧ sj.n ≤ b) : PXB b (x.drain i) := fun s hs => by
 rw [drain_dry hi] at hs
 obtain ⟨j, hj⟩ := List.mem_iff_getElem?.1 hs
 by_cases e : i = j
 ·subst e
  rw [List.getElem?_set_self (List.getElem?_eq_some_iff.1 hi).1] at hj
  rw [← Option.some.inj hj]
  exact ⟨rfl, (hB i si hi).2⟩
 ·rw [List.getElem?_set_ne e] at hj
  exact ⟨(hB j s hj).1 (fun q => e q.symm), (hB j s hj).2⟩
theorem lat_fldF {x : PX} (hn : (x.S.map (·.num)).Nodup) {A B : List Ss} {s : Ss} (hS : x.S = A ++ s :: B) : lat (x.fldF s).S ≤ lat (A ++ B) + 1 := by
 rw [fldF_eq hS hn]
 split
 ·show lat (A ++ _ :: B) ≤ _
  rw [lat_mid, if_pos (show (x.later s).st = 1 from rfl)]; exact Nat.le_refl _
 ·exact Nat.le_succ _
theorem attF_w {x : PX} (h : PXG x) {A B : List Ss} {s : Ss} (hS : x.S = A ++ s :: B) : wX (x.attF s) ≤ wP x.P + lat (A ++ B) + 1 := by
 unfold PX.attF
 by_cases hc : x.b.cand x.now = []
 ·rw [if_pos hc]
  have := lat_fldF h.nd hS
  unfold wX
  rw [(fldF_rest (x := x) s).1]; omega
 ·rw [if_neg hc]
  cases hsi : x.P[x.pk s]? with
  | none =>
   unfold wX; rw [hS, lat_mid]; dsimp only
   split <;> omega
  | some si =>
   dsimp only
   obtain ⟨p1, _⟩ := attX_fields x s si
   have h1 := sum_set (f := wt) (si.getS s.num x.now s.dl) hsi
   have h2 := get_w (h.po _ si hsi).ph s.num x.now s.dl
   have h9 : ¬ (x.attS s si).st = 1 := by
    by_cases k1 : (x.pv s si).k = 1
    ·rw [(attX_1 k1).2]; show ¬ (4 : Int) = 1; decide
    ·by_cases k2 : (x.pv s si).k = 2
     ·rw [(attX_2 k1 k2).2]; show ¬ (3 : Int) = 1; decide
     ·rw [(attX_3 k1 k2).2]; show ¬ (2 : Int) = 1; decide
   have h3 : lat (updS x.S s.num fun _ => x.attS s si) = lat (A ++ B) := by
    rw [updS_at hS h.nd, lat_mid, if_neg h9]; rfl
   show wP (x.attX s si).P + lat (updS x.S s.num fun _ => x.attS s si) ≤ _
   rw [h3, p1]
   unfold wP
   omega
theorem dueF_w {x : PX} (h : PXG x) (now : Nat) {A B : List Ss} {s : Ss} (hS : x.S = A ++ s :: B) (hst : s.st = 1) : wX (x.dueF now s) ≤ wX x := by
 have h0 : wX x = wP x.P + lat (A ++ B) + 1 := by unfold wX; rw [hS, lat_mid, if_pos hst]; omega
 unfold PX.dueF
 split
 ·rw [filt_num hS h.nd, h0]
  show wP x.P + lat (A ++ B) ≤ _; omega
 ·rw [h0]; exact attF_w h hS
structure PXO (w b e : Nat) (x : PX) : Prop where
 g : PXG x
 w : wX x ≤ w
 b : PXB b x
 e : x.E.length ≤ e
 tr : x.pl.tries ≤ 100
theorem PXO.le {w b e w2 b2 e2 : Nat} {x : PX} (h : PXO w b e x) (h1 : w ≤ w2) (h2 : b ≤ b2) (h3 : e ≤ e2) : PXO w2 b2 e2 x := ⟨h.g, Nat.le_trans h.w h1, fun s hs => ⟨(h.b s hs).1, Nat.le_trans (h.b s hs).2 h2⟩, Nat.le_trans h.e h3, h.tr⟩
theorem PXO.nx {w b e : Nat} {x : PX} (h : PXO w b e x) : PXO w b e x.nx := ⟨⟨h.g.bl, h.g.nd, h.g.ks, h.g.bk, h.g.po⟩, h.w, h.b, by show (x.E.drop 1).length ≤ e; rw [List.length_drop]; have := h.e; omega, h.tr⟩
theorem PXO.cnt {w b e : Nat} {x : PX} (h : PXO w b e x) : ∀ si ∈ x.P, 3 * si.cnt 3 ≤ w := fun si hs => by
 obtain ⟨j, hj⟩ := List.mem_iff_getElem?.1 hs
 have h1 := wP_at hj
 have h2 := h.w
 unfold wX at h2
 rw [cnt_cn]
 unfold wt at h1
 omega
theorem PXG.beg0 {x : PX} (h : PXG x) {n : Int} {now dl : Nat} {key : ByteArray} (p : Nat) (hk : key.size ≤ 64) (hn : x.now ≤ now) (hno : n ∉ x.S.map (·.num)) : PXG (x.beg0 n now dl key p) := by
 refine ⟨Nat.le_trans h.bl hn, ?_, fun s hs => ?_, fun s hs he => ?_, fun i si hi => ?_⟩
 ·show ((x.S ++ [newS n dl key p]).map (·.num)).Nodup
  rw [List.map_append, List.nodup_append]
  exact ⟨h.nd, by simp, fun a ha b hb => by simp at hb; rw [hb]; rintro rfl; exact hno ha⟩
 ·rcases List.mem_append.1 hs with hs | hs
  ·exact h.ks s hs
  ·rw [List.mem_singleton.1 hs]; exact ⟨hk, Nat.zero_le _⟩
 ·rcases List.mem_append.1 hs with hs | hs
  ·exact h.bk s hs he
  ·rw [List.mem_singleton.1 hs] at he
   have he : (0 : Int) = 2 ∨ (0 : Int) = 3 ∨ (0 : Int) = 4 := he
   omega
 ·have hp := (h.po i si hi).later hn
  exact ⟨hp.ph, hp.nw, hp.nd, hp.ks, fun w hw => by
   obtain ⟨y, hy, r⟩ := hp.wt w hw
   exact ⟨y, List.mem_append_left _ hy, r⟩, fun c y hy hs => by
   rcases hp.dl c y hy hs with ⟨z, hz, r⟩ | q
   ·exact .inl ⟨z, List.mem_append_left _ hz, r⟩
   ·exact .inr q⟩
theorem PXO.begin {w b e : Nat} {x : PX} (h : PXO w b e x) {n : Int} {now dl : Nat} {key : ByteArray} (p : Nat) (he : x.begE n now dl key = 0) : PXO (w + 1) (b + 1) (e + 1) (x.begin n now dl key p) := by
 obtain ⟨hr, hk, hn1, hn2, hd, hno, hm⟩ := begE_zero he
 have g0 := h.g.beg0 (dl := dl) p hk hn1 hno
 have hS : (x.beg0 n now dl key p).S = x.S ++ newS n dl key p :: [] := rfl
 have hB : PXB b (x.beg0 n now dl key p) := h.b
 obtain ⟨r1, r2, r3, r4, r5⟩ := attF_rest g0 (newS n dl key p) hB
 have hw := attF_w g0 hS
 refine ⟨g0.attF hS (by show (0 : Int) ≠ 2; decide) (by show (0 : Int) ≠ 3; decide) h.tr, ?_, r4, ?_, by rw [show (x.begin n now dl key p).pl = _ from r2]; exact h.tr⟩
 ·have := h.w
  unfold wX at this
  rw [List.append_nil] at hw
  have hw : wX (x.begin n now dl key p) ≤ wP x.P + lat x.S + 1 := hw
  omega
 ·have := h.e
  have r3 : (x.begin n now dl key p).E.length ≤ x.E.length + 1 := r3
  omega
theorem NoDial.dialed {x : PX} (h : PXG x) {s : Ss} (hs : s ∈ x.S) (hst : s.st = 3) {i : Nat} {si : PS} (hbe : s.be = (i : Int)) (hi : x.P[i]? = some si) {now : Nat} (hn : x.now ≤ now) (hnw : now ≠ 18446744073709551615) : NoDial s.num (x.dial1 s false now i si) := by
 have hil := (List.getElem?_eq_some_iff.1 hi).1
 -- who dials for s, does so by its own connection
 have own : ∀ (j : Nat) (sj : PS), x.P[j]? = some sj → ∀ (c : Nat) (y : Cn), sj.C[c]? = some y → y.st = 1 → y.who = s.num → j = i ∧ s.cn = (c : Int) := fun j sj hj c y hy h1 hw => by
  rcases (h.po j sj hj).dl c y hy h1 with ⟨z, hz, e1, e2, e3, e4⟩ | e
  ·have : z = s := uniq_num h.nd hz hs (e1.trans hw)
   subst this
   rw [hbe] at e3
   exact ⟨by omega, e4⟩
  ·exact absurd (by rw [← hw]; exact ev_pend e) (h.noPend hs (by rw [hst]; decide) hj)
 refine fun j sj hj y hy h1 hw => ?_
 obtain ⟨c, hc⟩ := List.mem_iff_getElem?.1 hy
 have hj : (x.P.set i (si.dialed s.cn false now))[j]? = some sj := hj
 by_cases e : i = j
 ·subst e
  rw [List.getElem?_set_self hil] at hj
  rw [← Option.some.inj hj] at hc
  have hp := h.po i si hi
  rcases (opd_dialed si s.cn false now).dl c y hc h1 with q | q
  ·obtain ⟨_, hcn⟩ := own i si hi c y q h1 hw
   have hcl := (List.getElem?_eq_some_iff.1 q).1
   rw [hp.ph.len] at hcl
   have hin : si.inE s.cn 1 now = 0 := by
    have hpn := hp.nw
    refine inE_ok (may_fine (decide_eq_true (by omega)) (by omega)) ?_
    rw [hcn, Int.toNat_natCast, q]
    rintro (e9 | e9)
    ·omega
    ·exact e9 (by rw [Option.map_some, h1])
   rw [hcn] at hin hc
   rw [dialed_lost hin] at hc
   have hset : ((si.at_ now).set c ⟨0, 0, 0⟩).C[c]? = some ⟨0, 0, 0⟩ := List.getElem?_set_self (by show c < si.C.length; rw [hp.ph.len]; exact hcl)
   rcases (opd_next ((si.at_ now).set c ⟨0, 0, 0⟩)).dl c y hc h1 with q2 | q2
   ·rw [hset] at q2
    rw [← Option.some.inj q2] at h1
    exact absurd h1 (by decide)
   · -- it was told of: who waits
    have q3 := ev_pend q2
    have q4 := ((opd_next ((si.at_ now).set c ⟨0, 0, 0⟩)).pend).mem_iff.1 q3
    rw [hw] at q4
    exact h.noPend hs (by rw [hst]; decide) hi q4
  ·have q3 := (opd_dialed si s.cn false now).pend.mem_iff.1 (ev_pend q)
   rw [hw] at q3
   exact h.noPend hs (by rw [hst]; decide) hi q3
 ·rw [List.getElem?_set_ne e] at hj
  obtain ⟨q, _⟩ := own j sj hj c y hc h1 hw
  exact e q.symm
theorem dial1_B {x : PX} {b : Nat} (hB : PXB b x) (h : PXG x) {s : Ss} {good : Bool} {now i : Nat} {si : PS} (hi : x.P[i]? = some si) : ∀ (j : Nat) (sj : PS), (x.dial1 s good now i si).P[j]? = some sj → (j ≠ i → sj.E = []) ∧ sj.n ≤ b + 1 := fun j sj hj => by
 have hj : (x.P.set i (si.dialed s.cn good now))[j]? = some sj := hj
 by_cases e : i = j
 ·subst e
  rw [List.getElem?_set_self (List.getElem?_eq_some_iff.1 hi).1] at hj
  refine ⟨fun q => absurd rfl q, ?_⟩
  rw [← Option.some.inj hj]
  have h1 := (hB si (List.mem_of_getElem? hi)).2
  by_cases he : si.inE s.cn 1 now = 0
  ·obtain ⟨k, _, _, _, r⟩ := dialed_R (h.po i si hi).ph he good
   have := r.n; omega
  ·rw [dialed_no he]; omega
 ·rw [List.getElem?_set_ne e] at hj
  have := hB sj (List.mem_of_getElem? hj)
  exact ⟨fun _ => this.1, by omega⟩
theorem PXO.dialed {w b e : Nat} {x : PX} (h : PXO w b e x) {A B : List Ss} {s : Ss} (hS : x.S = A ++ s :: B) (hst : s.st = 3) (good : Bool) {now : Nat} (hn : x.now ≤ now) (hnw : now ≠ 18446744073709551615) : PXO (w + 1) (b + 1) (e + 3) (x.dialN s good now) := by
 have hs : s ∈ x.S := by rw [hS]; exact List.mem_append_right _ (List.mem_cons_self ..)
 obtain ⟨i, hbe, hil⟩ := h.g.bk s hs (.inr (.inl hst))
 obtain ⟨si, hi⟩ := getE (T := x.P) (i := i) hil
 have hph := (h.g.po i si hi).ph
 have hsE := (h.b si (List.mem_of_getElem? hi)).1
 have g1 := h.g.dial1 s good hi hn
 have hB1 := dial1_B (s := s) (good := good) (now := now) h.b h.g hi
 have hi1 : (x.dial1 s good now i si).P[i]? = some (si.dialed s.cn good now) := List.getElem?_set_self hil
 have hdE := dialed_E si s.cn good now
 rw [hsE, List.length_nil] at hdE
 have hw1 := sum_set (f := wt) (si.dialed s.cn good now) hi
 have hl0 : lat x.S = lat (A ++ B) := by rw [hS, lat_mid, if_neg (by rw [hst]; decide)]; rfl
 have hw0 := h.w
 unfold wX wP at hw0
 have he0 := h.e
 rw [dialN_eq hbe hi]
 cases good with
 | true =>
  rw [if_pos rfl, updS_at hS h.g.nd]
  have hC0 : si.dialed s.cn true now = { si.dialed s.cn true now with E := [] } := by
   have : (si.dialed s.cn true now).E = [] := by
    unfold PS.dialed
    split
    ·exact hsE
    ·rw [if_pos rfl]; exact hsE
   rw [← this]
  refine ⟨?_, ?_, ?_, ?_, h.tr⟩
  ·refine g1.swap (s' := { s with st := 4 }) hS rfl rfl (h.g.ks s hs) (fun _ => ⟨i, hbe, by rw [show (x.dial1 s true now i si).P.length = _ from List.length_set ..]; exact hil⟩) g1.bl rfl fun j sj hj => ?_
   have hj : (x.dial1 s true now i si).P[j]? = some sj := hj
   refine (g1.po j sj hj).chg (n := s.num) (by show OnlyAt s.num x.S _; rw [hS]; exact onlyAt_swap _) (g1.noPend (x := x.dial1 s true now i si) hs (by rw [hst]; decide) hj) fun c y hy h1 hw => ?_
   exfalso
   rcases (g1.po j sj hj).dl c y hy h1 with ⟨z, hz, e1, e2, e3, e4⟩ | q
   ·have : z = s := uniq_num h.g.nd hz hs (e1.trans hw)
    subst this
    rw [hbe] at e3
    obtain rfl : i = j := by omega
    rw [hi1] at hj
    have hj := Option.some.inj hj
    rw [← hj] at hy
    rcases (opd_dialed si z.cn true now).dl c y hy h1 with q | q
    ·have hp := h.g.po i si hi
     have hcl := (List.getElem?_eq_some_iff.1 q).1
     rw [hp.ph.len] at hcl
     have hpn := hp.nw
     have hin : si.inE z.cn 1 now = 0 := by
      refine inE_ok (may_fine (decide_eq_true (by omega)) (by omega)) ?_
      rw [e4, Int.toNat_natCast, q]
      rintro (e9 | e9)
      ·omega
      ·exact e9 (by rw [Option.map_some, h1])
     rw [e4] at hin hy
     rw [dialed_made hin] at hy
     have hset : ((si.at_ now).set c ⟨2, 0, 0⟩).C[c]? = some ⟨2, 0, 0⟩ := List.getElem?_set_self (by show c < si.C.length; rw [hp.ph.len]; exact hcl)
     rw [hset] at hy
     rw [← Option.some.inj hy] at h1
     exact absurd h1 (by decide)
    ·rw [hC0] at q; cases q
   ·exact absurd (by rw [← hw]; exact ev_pend q) (g1.noPend (x := x.dial1 s true now i si) hs (by rw [hst]; decide) hj)
  ·have h2 := dialed_w hph s.cn true now
   show ((x.P.set i (si.dialed s.cn true now)).map wt).sum + lat (A ++ _ :: B) ≤ _
   rw [lat_mid, if_neg (by show ¬ (4 : Int) = 1; decide)]
   omega
  ·intro sj hj
   obtain ⟨j, hj⟩ := List.mem_iff_getElem?.1 hj
   have hj : (x.dial1 s true now i si).P[j]? = some sj := hj
   have := hB1 j sj hj
   refine ⟨?_, this.2⟩
   by_cases e9 : j = i
   ·subst e9
    rw [hi1] at hj
    rw [← Option.some.inj hj, hC0]
   ·exact this.1 e9
  ·show (x.E ++ [_]).length ≤ _
   rw [List.length_append, List.length_singleton]; omega
 | false =>
  rw [if_neg (by decide)]
  have gd := g1.drain i
  have hs3 : s ∈ ((x.dial1 s false now i si).drain i).S := drain_keep g1 i hs (by rw [hst]; decide)
  obtain ⟨A3, B3, hS3⟩ := List.append_of_mem hs3
  have g3 : PXG { (x.dial1 s false now i si).drain i with b := ((x.dial1 s false now i si).drain i).b.doneX now s.cal false } := by
   refine ⟨?_, gd.nd, gd.ks, gd.bk, gd.po⟩
   have := gd.bl
   rw [drain_now] at this
   show (BS.doneX _ _ _ _).last ≤ ((x.dial1 s false now i si).drain i).now
   rw [drain_now]
   exact doneX_last _ _ _ _ this
  have hnd3 := (NoDial.dialed h.g hs hst hbe hi hn hnw).drain i
  have hpl3 : ((x.dial1 s false now i si).drain i).pl = x.pl := drain_pl _ i
  obtain ⟨r1, r2, r3, r4, r5⟩ := fldF_rest (x := { (x.dial1 s false now i si).drain i with b := ((x.dial1 s false now i si).drain i).b.doneX now s.cal false }) s
  refine ⟨g3.fldF hS3 (by rw [hst]; decide) hnd3 (by show ((x.dial1 s false now i si).drain i).pl.tries ≤ 100; rw [hpl3]; exact h.tr), ?_, ?_, ?_, by rw [r3]; show ((x.dial1 s false now i si).drain i).pl.tries ≤ 100; rw [hpl3]; exact h.tr⟩
  ·have h2 := dialed_lost_w hph s.cn now
   have h3 : lat _ ≤ lat (A3 ++ B3) + 1 := lat_fldF g3.nd hS3
   have h4 := drain_lat g1 i
   rw [hS3, lat_mid, if_neg (by rw [hst]; decide)] at h4
   have h4 : lat (A3 ++ B3) + 0 ≤ lat x.S := h4
   have h5 := drain_wP hi1
   have h5 : wP ((x.dial1 s false now i si).drain i).P = ((x.P.set i (si.dialed s.cn false now)).map wt).sum := h5
   unfold wX
   rw [r1]
   show wP ((x.dial1 s false now i si).drain i).P + _ ≤ _
   omega
  ·intro sj hj
   rw [r1] at hj
   exact drain_B hi1 hB1 sj hj
  ·have h6 : ((x.dial1 s false now i si).drain i).E.length ≤ x.E.length + (si.dialed s.cn false now).E.length := drain_E hi1
   have r4 : _ ≤ ((x.dial1 s false now i si).drain i).E.length + 1 := r4
   omega
theorem PXO.end_ {w b e : Nat} {x : PX} (h : PXO w b e x) {A B : List Ss} {s : Ss} (hS : x.S = A ++ s :: B) (hst : s.st = 4) (good : Bool) {now : Nat} (hn : x.now ≤ now) : PXO (w + 1) (b + 1) (e + 3) (x.endN s good now) := by
 have hs : s ∈ x.S := by rw [hS]; exact List.mem_append_right _ (List.mem_cons_self ..)
 obtain ⟨i, hbe, hil⟩ := h.g.bk s hs (.inr (.inr hst))
 obtain ⟨si, hi⟩ := getE (T := x.P) (i := i) hil
 have hph := (h.g.po i si hi).ph
 have hsE := (h.b si (List.mem_of_getElem? hi)).1
 have hsn := (h.b si (List.mem_of_getElem? hi)).2
 have g1 := h.g.end1 hS hst good hi hn
 have hX : x.endN s good now = PX.drain { x with now := now, P := x.P.set i (si.put s.cn good now), b := x.b.doneX now s.cal good, S := A ++ B } i := by
  rw [endN_eq hbe hi]; unfold PX.end1; rw [filt_num hS h.g.nd]
 have hi1 : (x.P.set i (si.put s.cn good now))[i]? = some (si.put s.cn good now) := List.getElem?_set_self hil
 have hpE := put_E si s.cn good now
 rw [hsE, List.length_nil] at hpE
 have hw1 := sum_set (f := wt) (si.put s.cn good now) hi
 have hl0 : lat x.S = lat (A ++ B) := by rw [hS, lat_mid, if_neg (by rw [hst]; decide)]; rfl
 have hw0 := h.w
 unfold wX wP at hw0
 have he0 := h.e
 rw [hX]
 refine ⟨g1.drain i, ?_, drain_B hi1 fun j sj hj => ?_, ?_, by rw [drain_pl]; exact h.tr⟩
 ·have h2 := put_w hph s.cn good now
  have h4 := drain_lat g1 i
  have h4 : lat _ ≤ lat (A ++ B) := h4
  unfold wX
  rw [drain_wP hi1]
  show ((x.P.set i (si.put s.cn good now)).map wt).sum + _ ≤ _
  omega
 ·have hj : (x.P.set i (si.put s.cn good now))[j]? = some sj := hj
  by_cases e9 : i = j
  ·subst e9
   rw [hi1] at hj
   refine ⟨fun q => absurd rfl q, ?_⟩
   rw [← Option.some.inj hj]
   by_cases he : si.inE s.cn 2 now = 0
   ·obtain ⟨k, _, _, _, r⟩ := put_R hph he good
    have := r.n; omega
   ·rw [put_no he]; omega
  ·rw [List.getElem?_set_ne e9] at hj
   have := h.b sj (List.mem_of_getElem? hj)
   exact ⟨fun _ => this.1, by omega⟩
 ·have h6 := drain_E (x := { x with now := now, P := x.P.set i (si.put s.cn good now), b := x.b.doneX now s.cal good, S := A ++ B }) hi1
  have h6 : _ ≤ x.E.length + (si.put s.cn good now).E.length := h6
  omega
theorem advP_w {x : PX} (h : PXG x) (i : Nat) : wX (x.advP x.now i) ≤ wX x := by
 unfold PX.advP
 cases hi : x.P[i]? with
 | none => exact Nat.le_refl _
 | some si =>
  have hp := h.po i si hi
  obtain ⟨a, b⟩ := ph_adv hp.ph hp.nw
  have g1 := h.pool hi (hp.op (opd_adv (pend_who hp) x.now) a b)
  have h1 := sum_set (f := wt) (si.advance x.now) hi
  have h2 := adv_w hp.ph x.now
  have h3 := drain_lat g1 i
  have h4 := drain_wP (x := { x with P := x.P.set i (si.advance x.now) }) (List.getElem?_set_self (List.getElem?_eq_some_iff.1 hi).1)
  have h4 : wP (PX.drain { x with P := x.P.set i (si.advance x.now) } i).P = ((x.P.set i (si.advance x.now)).map wt).sum := h4
  have h3 : lat (PX.drain { x with P := x.P.set i (si.advance x.now) } i).S ≤ lat x.S := h3
  show wP (PX.drain _ i).P + lat (PX.drain _ i).S ≤ wP x.P + lat x.S
  rw [h4]
  unfold wP
  omega
theorem advP_E {x : PX} (i : Nat) : (x.advP x.now i).E.length ≤ x.E.length + (match x.P[i]? with | none => 0 | some si => (si.advance x.now).E.length) := by
 unfold PX.advP
 cases hi : x.P[i]? with
 | none => exact Nat.le_refl _
 | some si => exact drain_E (x := { x with P := x.P.set i (si.advance x.now) }) (List.getElem?_set_self (List.getElem?_eq_some_iff.1 hi).1)
theorem advK_w {x : PX} (h : PXG x) {now : Nat} (hn : x.now ≤ now) : ∀ k, k ≤ x.P.length → wX (x.advK now k) ≤ wX x ∧ (x.advK now k).E.length + evS now (x.P.drop k) ≤ x.E.length + evS now x.P
 | 0, _ => ⟨Nat.le_refl _, Nat.le_refl _⟩
 | k + 1, hk => by
  obtain ⟨a, b⟩ := advK_w h hn k (by omega)
  have g := h.advK hn k
  obtain ⟨f1, f2, f3, f4⟩ := advK_facts x now k
  obtain ⟨si, hsi⟩ := getE (T := x.P) (i := k) (by omega)
  have h1 := advP_w g k
  have h2 := advP_E (x := x.advK now k) k
  rw [f4 k (Nat.le_refl _), hsi] at h2
  dsimp only at h2
  rw [f1] at h1 h2
  have h3 := evS_drop (now := now) hsi
  rw [advK_next]
  omega
theorem PXO.adv {w b e : Nat} {x : PX} (h : PXO w b e x) {now : Nat} (hn : x.now ≤ now) (hnm : ∀ s ∈ x.S, 0 ≤ s.num ∧ s.num ≤ 100) (hnk : ((x.advK now x.P.length).S.map (·.num)).length ≤ 101) : PXO w (b + 102) (e + w + 101) (x.adv now) := by
 have g0 := h.g.advK hn x.P.length
 obtain ⟨w0, e0⟩ := advK_w h.g hn x.P.length (Nat.le_refl _)
 rw [List.drop_length] at e0
 have e0 : (x.advK now x.P.length).E.length + 0 ≤ x.E.length + evS now x.P := e0
 have hev := evS_le h.g h.b now
 have hB0 := advK_B h.g h.b now x.P.length
 obtain ⟨f1, f2, f3, f4⟩ := advK_facts x now x.P.length
 have hdl : (x.advK now x.P.length).due.length ≤ 101 := by
  have a1 := (due_perm (x.advK now x.P.length)).length_eq
  have a2 := List.length_filter_le (fun s : Ss => decide (s.st = 1 ∧ s.til ≤ (x.advK now x.P.length).now)) (x.advK now x.P.length).S
  rw [List.length_map] at hnk
  omega
 have key : ∀ (L : List Ss) (y : PX) (k : Nat), PXG y → y.pl.tries ≤ 100 → PXB (b + 1 + k) y → (L.map (·.num)).Nodup → (∀ s ∈ L, s ∈ y.S ∧ s.st = 1) → PXG (L.foldl (PX.dueF now) y) ∧ wX (L.foldl (PX.dueF now) y) ≤ wX y ∧ PXB (b + 1 + k + L.length) (L.foldl (PX.dueF now) y) ∧ (L.foldl (PX.dueF now) y).E.length ≤ y.E.length + L.length ∧ (L.foldl (PX.dueF now) y).pl.tries ≤ 100 := by
  intro L
  induction L with
  | nil => intro y k g t bb _ _; exact ⟨g, Nat.le_refl _, bb, Nat.le_refl _, t⟩
  | cons s r ih =>
   intro y k g t bb hnd hL
   obtain ⟨hs, hst⟩ := hL s (List.mem_cons_self ..)
   obtain ⟨A, B, hS⟩ := List.append_of_mem hs
   rw [List.map_cons, List.nodup_cons] at hnd
   obtain ⟨r1, r2, r3, r4, r5⟩ := dueF_rest g now s bb
   obtain ⟨q1, q2, q3, q4, q5⟩ := ih (y.dueF now s) (k + 1) (g.dueF now hS hst t) (by rw [r2]; exact t) r4 hnd.2 fun z hz => ⟨dueF_only y now s z (hL z (List.mem_cons_of_mem _ hz)).1 (fun e9 => hnd.1 (by rw [← e9]; exact List.mem_map_of_mem hz)), (hL z (List.mem_cons_of_mem _ hz)).2⟩
   have hw := dueF_w g now hS hst
   rw [List.foldl_cons, List.length_cons]
   exact ⟨q1, Nat.le_trans q2 hw, by rw [show b + 1 + k + (r.length + 1) = b + 1 + (k + 1) + r.length from by omega]; exact q3, by omega, q5⟩
 obtain ⟨q1, q2, q3, q4, q5⟩ := key (x.advK now x.P.length).due (x.advK now x.P.length) 0 g0 (by rw [f2]; exact h.tr) hB0 (due_nodup g0.nd) fun s hs => ⟨(due_mem hs).1, (due_mem hs).2.1⟩
 have hw := h.w
 have he := h.e
 have hwP : wP x.P ≤ wX x := Nat.le_add_right _ _
 exact ⟨q1, Nat.le_trans q2 (Nat.le_trans w0 hw), fun s hs => ⟨(q3 s hs).1, by have := (q3 s hs).2; omega⟩, by show ((x.advK now x.P.length).due.foldl (PX.dueF now) (x.advK now x.P.length)).E.length ≤ _; omega, q5⟩
end Go.Proofs.YtelmlkdibcdebaaGreat
