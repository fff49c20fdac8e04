/-
 Chapter 11 (poller), part PrB: contracts of functions that the laws call, each for the heap it names.
-/
import Derived.Test.YtbkdebnkoidicaaGreatY04
import Derived.Test.YtbkdebnkoidicaaGreatRows
section
set_option linter.unusedVariables false
set_option maxRecDepth 20000
set_option maxHeartbeats 2000000
namespace Go.Proofs.YtbkdebnkoidicaaGreat
theorem po_zero (k : Nat) (m : PoM) : Spec Tryz.prog 41 [ptrH m.p] [poE k m] (fun x H' => x = .bool false ∧ H' = [poE k m]) := by
 refine Spec.of (E := [(0, ptrH m.p)]) Tryz.func41 rfl (by kernel_rfl) Tryz.ntmps41 rfl rfl (fun w => ?_)
 refine WC_seq (WC_region (WLa rfl (WL_nil (WQ_code (WC_seq (WC_region (WLa rfl ?_)))))))
 refine WL_val rfl rfl rfl (R_ptrEqNil rfl Tryz.underlying23 rfl) ?_
 refine WLa rfl (WLa rfl (WLa rfl ?_))
 refine WL_val rfl rfl rfl (R_fieldAddr rfl fa92_2 rfl) ?_
 refine WL_val rfl rfl rfl (R_load rfl sc89 rfl (mmC) rfl) ?_
 refine WL_val rfl rfl rfl (R_ptrEqNil rfl Tryz.underlying89 rfl) ?_
 refine WLa rfl (WLa rfl (WL_nil (WQ_code (WC_ret ?_))))
 refine WQ_ret rfl rfl (.cons (.tmp rfl) .nil) rfl (by
   exact ⟨rfl, rfl⟩) (pqC)
theorem spA_ok {n dir : Int} (h : dir = 0 ∨ dir = 1) : PoS.spA n dir = (n, dir) := if_pos h
theorem spA_no {n dir : Int} (h : ¬ (dir = 0 ∨ dir = 1)) : PoS.spA n dir = (0, 0) := if_neg h
theorem spE_ok (z : PoS) {n g dir : Int} (h : dir = 0 ∨ dir = 1) : z.spE n g dir = (getT z.T n g).2 := if_pos h
theorem spE_no (z : PoS) {n g dir : Int} (h : ¬ (dir = 0 ∨ dir = 1)) : z.spE n g dir = 2 := if_neg h
theorem spE_vld {N : Nat} {z : PoS} {m : PoM} (h : PoIs N z m) {n g dir : Int} (h0 : z.spE n g dir = 0) : vldS (n, dir) ∧ PoS.spA n dir = (n, dir) := by
 by_cases hd : dir = 0 ∨ dir = 1
 ·rw [spE_ok z hd] at h0
  obtain ⟨h1, h2, _⟩ := getT_ok h.tb h0
  exact ⟨⟨h1, h2, hd⟩, spA_ok hd⟩
 ·rw [spE_no z hd] at h0; cases h0
theorem wait_lt {N : Nat} {s : PS} {l : PkM} (h : PkIs N s l) {a : Sp} {v : Int} (hv : v ∈ s.waiting a) : ∃ j : Nat, v = (j : Int) ∧ j < s.sm.length := by
 unfold PS.waiting at hv
 split at hv
 ·obtain ⟨w, hw, _, rfl⟩ := wAt_mem.1 hv
  exact ⟨w.i, rfl, (List.getElem?_eq_some_iff.1 ((h.ps.prk w.i).2 ⟨w, hw, rfl⟩)).1⟩
 ·cases hv
theorem wakeAll_sm {s : PS} (h : PsOk s) (a : Sp) : (s.wakeAll a).sm.length = s.sm.length := by
 unfold PS.wakeAll PS.waiting
 split
 ·have := (wakes_ok h a (wAt s.W a).length (Nat.le_refl _)).2.2
  rwa [List.take_length] at this
 ·rfl
theorem wk_take {l : List Int} {k : Nat} {v : Int} (h : l[k]? = some v) : l.take (k + 1) = l.take k ++ [v] := take_get h
theorem markR_next {R l : List Int} {k : Nat} {v why : Int} (h : l[k]? = some v) : markR R (l.take (k + 1)) why = (markR R (l.take k) why).set v.toNat why := by
 rw [wk_take h]; unfold markR; rw [List.foldl_append]; rfl
theorem own_sm {o : Option Nat} {c : Nat} {xs ys : List Int} {tl : List Value} (h : Own o xs.length c 1 (ivs xs) tl) (e : ys.length = xs.length) : Own o ys.length c 1 (ivs ys) tl := by
 rw [e]; exact h.like (by rw [fm_length encI1, fm_length encI1, e])
theorem po_spot {N : Nat} {z : PoS} (m : PoM) (h : PoIs N z m) (hN : N ≤ 800000) (n g dir : Int) : Spec Tryz.prog 47 [ptrH m.p, .agg #[.int .i64 n, .int .i64 g], .int .i64 dir] (poH z m) (fun x H' => x = .tuple #[ekS (PoS.spA n dir), .int .i64 (z.spE n g dir)] ∧ H' = poH z m) := by
 refine Spec.of (E := [(0, ptrH m.p), (1, .agg #[.int .i64 n, .int .i64 g]), (2, .int .i64 dir)]) Tryz.func47 rfl (by kernel_rfl) Tryz.ntmps47 rfl rfl (fun w => ?_)
 refine WC_seq (WC_region ?_)
 refine WL_do rfl rfl rfl (D_box (cs := [_, _]) rfl rfl rfl) ?_
 rintro _ _ ⟨b1, rfl, rfl⟩
 refine WL_do rfl rfl rfl (D_alloc rfl zv108) ?_
 rintro _ _ ⟨b2, rfl, rfl⟩
 refine WLa rfl (WL_nil (WQ_code (WC_seq (WC_block (WC_seq (WC_region (WLa rfl ?_)))))))
 refine WL_do rfl rfl rfl (D_call (po_zero z.R.length m) rfl rfl rfl rfl (pqC)) ?_
 rintro _ _ ⟨_, ⟨rfl, rfl⟩, rfl⟩
 refine WLa rfl (WL_nil (WQ_code ?_))
 refine WC_F rfl ?_
 refine WC_seq (WC_region (WLa rfl ?_))
 refine WL_val rfl rfl rfl (R_neq rfl rfl rfl) ?_
 refine WLa rfl ?_
 refine WL_splitD (s := 17) rfl (fun c1 => ?_) (fun c1 => ?_)
 ·refine WLa rfl ?_
  refine WL_val rfl rfl rfl (R_neq rfl rfl rfl) ?_
  refine WLa rfl (WLa rfl (WL_nil (WQ_code ?_)))
  refine WC_dec rfl (fun c2 => ?_) (fun c2 => ?_)
  ·refine WC_seq (WC_region ?_)
   refine WL_val rfl rfl rfl (R_build rfl zv108 pl108 rfl rfl) ?_
   refine WL_do0 rfl rfl (D_store (vs := [_, _]) rfl Tryz.sizeOf108 rfl rfl rfl rfl rfl (plC) (Nat.le_of_ble_eq_true rfl)) ?_
   rintro _ _ rfl
   refine WLa rfl (WL_nil (WQ_code (WC_ret ?_)))
   refine WQ_ret rfl rfl (.cons (.cell (vs := [_, _]) rfl ag108 (mmC) rfl (atZ)) (.cons (.tmp rfl) .nil)) rfl (by
     first | exact ⟨by rw [spA_no (by omega), spE_no z (by omega)]; rfl, rfl⟩ | exact ⟨by rw [spA_ok (by omega), spE_ok z (by omega)]; rfl, rfl⟩) (pqC)
  ·refine WC_skip (WQ_code (WC_seq ?_))
   refine WC_draw _ [(0, true), (1, true), (2, true), (3, true), (4, true), (5, true), (6, true), (7, true), (8, true), (9, true), (10, true)] followsMixed rfl rfl (by kernel_rfl) .all ?_
   refine WMa rfl (WMa rfl ?_)
   refine WM_val rfl rfl rfl rfl (R_fieldAddr rfl fa92_0 rfl) ?_
   refine WM_val rfl rfl rfl rfl (R_load rfl sc87 rfl (mmC) rfl) ?_
   refine WM_val rfl rfl rfl rfl (R_loadA (vs := [_, _]) rfl ag30 rfl (mmC) rfl (atZ)) ?_
   refine WM_call rfl (Spec.quiet (s_get m.tb h.tb (by omega) n g)) rfl rfl rfl rfl rfl rfl rfl (pqC) ?_
   refine WMa rfl (WMa rfl (WMa rfl (WMa rfl (WMa rfl (WM_nil (WQ_code (WC_seq (WC_region ?_))))))))
   refine WL_val rfl rfl rfl (R_fieldAddr rfl fa30_0 rfl) ?_
   refine WL_val rfl rfl rfl (R_load rfl sc3 rfl (mmC) rfl) ?_
   refine WLa rfl ?_
   refine WL_val rfl rfl rfl (R_build rfl zv108 pl108 rfl rfl) ?_
   refine WLa rfl ?_
   refine WL_do0 rfl rfl (D_store (vs := [_, _]) rfl Tryz.sizeOf108 rfl rfl rfl rfl rfl (plC) (Nat.le_of_ble_eq_true rfl)) ?_
   rintro _ _ rfl
   refine WLa rfl (WL_nil (WQ_code (WC_ret ?_)))
   refine WQ_ret rfl rfl (.cons (.cell (vs := [_, _]) rfl ag108 (mmC) rfl (atZ)) (.cons (.tmp rfl) .nil)) rfl (by
     first | exact ⟨by rw [spA_no (by omega), spE_no z (by omega)]; rfl, rfl⟩ | exact ⟨by rw [spA_ok (by omega), spE_ok z (by omega)]; rfl, rfl⟩) (pqC)
 ·refine WL_skip rfl rfl rfl ?_
  refine WL_skip rfl rfl rfl ?_
  refine WLa rfl (WLa rfl (WL_nil (WQ_code ?_)))
  refine WC_F rfl ?_
  refine WC_skip (WQ_code (WC_seq ?_))
  refine WC_draw _ [(0, true), (1, true), (2, true), (3, true), (4, true), (5, true), (6, true), (7, true), (8, true), (9, true), (10, true)] followsMixed rfl rfl (by kernel_rfl) .all ?_
  refine WMa rfl (WMa rfl ?_)
  refine WM_val rfl rfl rfl rfl (R_fieldAddr rfl fa92_0 rfl) ?_
  refine WM_val rfl rfl rfl rfl (R_load rfl sc87 rfl (mmC) rfl) ?_
  refine WM_val rfl rfl rfl rfl (R_loadA (vs := [_, _]) rfl ag30 rfl (mmC) rfl (atZ)) ?_
  refine WM_call rfl (Spec.quiet (s_get m.tb h.tb (by omega) n g)) rfl rfl rfl rfl rfl rfl rfl (pqC) ?_
  refine WMa rfl (WMa rfl (WMa rfl (WMa rfl (WMa rfl (WM_nil (WQ_code (WC_seq (WC_region ?_))))))))
  refine WL_val rfl rfl rfl (R_fieldAddr rfl fa30_0 rfl) ?_
  refine WL_val rfl rfl rfl (R_load rfl sc3 rfl (mmC) rfl) ?_
  refine WLa rfl ?_
  refine WL_val rfl rfl rfl (R_build rfl zv108 pl108 rfl rfl) ?_
  refine WLa rfl ?_
  refine WL_do0 rfl rfl (D_store (vs := [_, _]) rfl Tryz.sizeOf108 rfl rfl rfl rfl rfl (plC) (Nat.le_of_ble_eq_true rfl)) ?_
  rintro _ _ rfl
  refine WLa rfl (WL_nil (WQ_code (WC_ret ?_)))
  refine WQ_ret rfl rfl (.cons (.cell (vs := [_, _]) rfl ag108 (mmC) rfl (atZ)) (.cons (.tmp rfl) .nil)) rfl (by
    first | exact ⟨by rw [spA_no (by omega), spE_no z (by omega)]; rfl, rfl⟩ | exact ⟨by rw [spA_ok (by omega), spE_ok z (by omega)]; rfl, rfl⟩) (pqC)
structure MkW where
 k : Nat
 L : List Int
theorem po_all {N : Nat} {z : PoS} (m : PoM) (h : PoIs N z m) (hN : N ≤ 800000) (a : Sp) (why : Int) : Spec Tryz.prog 45 [ptrH m.p, ekS a, .int .i64 why] (poH z m)
  (fun x H' => ∃ (m' : PoM) (ob : Option Nat) (c : Nat) (tl : List Value), x = slV ob (z.s.waiting a).length c ∧ Own ob (z.s.waiting a).length c 1 (ivs (z.s.waiting a)) tl ∧ H' = ⟨ob, cl (ivs (z.s.waiting a) ++ tl) 3⟩ :: poH (z.all a why) m' ∧ m'.p = m.p ∧ PoIs (N + (z.s.waiting a).length) (z.all a why) m') := by
 have hwl := waiting_len h.pk.ps a
 refine Spec.of (E := [(0, ptrH m.p), (1, ekS a), (2, .int .i64 why)]) Tryz.func45 rfl (by kernel_rfl) Tryz.ntmps45 rfl rfl (fun w => ?_)
 refine WC_seq (WC_region ?_)
 refine WL_do rfl rfl rfl (D_box (cs := [_, _]) rfl rfl rfl) ?_
 rintro _ _ ⟨b1, rfl, rfl⟩
 refine WLa rfl (WL_nil (WQ_code (WC_seq ?_)))
 refine WC_draw ([⟨some b1, _⟩, ⟨some m.p, _⟩]) [(0, true), (1, true), (2, true), (3, true), (4, true), (5, false), (6, true), (7, true), (8, true), (9, true), (10, true)] followsMixed rfl rfl (by kernel_rfl) pqC ?_
 refine WMa rfl (WMa rfl ?_)
 refine WM_val rfl rfl rfl rfl (R_fieldAddr rfl fa92_2 rfl) ?_
 refine WM_val rfl rfl rfl rfl (R_load rfl sc89 rfl (mmC) rfl) ?_
 refine WM_val rfl rfl rfl rfl (R_loadA (vs := [_, _]) rfl ag108 rfl (mmC) rfl (atZ)) ?_
 refine WM_do rfl rfl rfl rfl (D_call (p_wakeall m.l h.pk (by omega) a) rfl rfl rfl rfl (pqC)) ?_
 rintro _ _ ⟨_, ⟨l', ob, c', tl', rfl, own', rfl, hlp, hl'⟩, rfl⟩
 refine ⟨⟨_, pqC⟩, ?_⟩
 simp only [poE]
 rw [← hlp]
 refine WMa rfl (WMa rfl (WMa rfl (WMa rfl (WMa rfl (WM_nil (WQ_code (WC_seq (WC_seq (WC_region (WLa rfl ?_))))))))))
 refine WL_val rfl rfl rfl (R_len rfl Tryz.underlying34 rfl) ?_
 refine WLa rfl (WL_nil (WQ_code (WC_block ?_)))
 refine WC_loopF (G := MkW) [10, 22, 23, 24, 25, 26, 27, 28, 29, 30, 31, 32, 33] (fun y => y.k ≤ (z.s.waiting a).length ∧ y.L = markR z.R ((z.s.waiting a).take y.k) why) (fun y => [(22, .int .i64 (y.k : Int))]) (fun y => [⟨some m.rb, cl (ivs y.L ++ m.rtl) 45⟩]) (fun y => (z.s.waiting a).length - y.k) (⟨0, z.R⟩) (⟨Nat.zero_le _, by rw [List.take_zero]; rfl⟩) leZ (pqC) ?_
 rintro y ⟨hyk, hyL⟩
 refine WC_seq (WC_region ?_)
 refine WL_val rfl rfl rfl (R_lss rfl rfl rfl) ?_
 refine WL_nil (WQ_code (WC_seq ?_))
 refine WC_dec rfl (fun c1 => ?_) (fun c1 => ?_)
 ·refine WC_skip (WQ_code (WC_seq (WC_block (WC_seq (WC_region ?_)))))
  obtain ⟨v, hx⟩ := exE (T := z.s.waiting a) (i := y.k) (by omega)
  obtain ⟨j, rfl, hj⟩ := wait_lt h.pk (List.mem_of_getElem? hx)
  obtain ⟨wb, hwb⟩ := own'.some_of (by omega)
  rw [hwb]
  have hml : y.L.length = z.R.length := by rw [hyL]; exact markR_len _ _ _
  have hrl := h.rl
  obtain ⟨u9, hu9⟩ := exE (T := y.L) (i := j) (by omega)
  refine WL_val rfl rfl rfl (R_indexAddrN rfl Tryz.underlying34 Tryz.sizeOf3 rfl rfl (by omega)) ?_
  refine WL_val rfl rfl rfl (R_load (v := .int .i64 (j : Int)) rfl sc3 rfl (mmC) (fm_get0 encI1 hx (j := 0) (by omega))) ?_
  refine WLa rfl (WL_nil (WQ_code (WC_region (WLa rfl (WLa rfl ?_)))))
  refine WL_val rfl rfl rfl (R_fieldAddr rfl fa92_3 rfl) ?_
  refine WL_val rfl rfl rfl (R_load rfl sc90 rfl (mmC) rfl) ?_
  refine WLa rfl (WLa rfl ?_)
  refine WL_val rfl rfl rfl (R_indexAddrN rfl Tryz.underlying90 Tryz.sizeOf45 rfl rfl (by rw [h.rl]; exact hj)) ?_
  refine WL_do0 rfl rfl (D_store (vs := [_]) rfl Tryz.sizeOf45 rfl rfl rfl rfl rfl (plC) (by exact fm_room0 encI1 (show j < y.L.length by omega) (j := 0) (by omega))) ?_
  rintro _ _ rfl
  have hput : putAt (ivs y.L ++ m.rtl) (0 + j * 1) [.int .i64 why] = ivs (y.L.set j why) ++ m.rtl := fm_put0 encI1 why hu9 (j := 0) (vs := [.int .i64 why]) (by simp) rfl (tl := m.rtl)
  rw [hput]
  refine WL_nil (WQ_code (WC_region ?_))
  refine WL_val rfl rfl rfl (R_add rfl rfl rfl (by omega)) ?_
  refine WLa rfl (WL_nil ?_)
  refine WQ_nextF (gg := y) (⟨y.k + 1, y.L.set j why⟩) (⟨by dsimp only; omega, by dsimp only; rw [markR_next hx, Int.toNat_natCast, hyL]⟩) (by dsimp only; omega) leZ (psZ) rfl (pqC)
 ·have hyl : y.k = (z.s.waiting a).length := by omega
  have hfin : y.L = markR z.R (z.s.waiting a) why := by rw [hyL, hyl, List.take_length]
  have hml := markR_len why (z.s.waiting a) z.R
  rw [hfin, ← hml]
  refine WC_exit (WQ_code (WC_seq (WC_region (WLa rfl (WLa rfl (WL_nil (WQ_code (WC_ret ?_))))))))
  refine WQ_ret rfl rfl (.cons (.tmp rfl) .nil) rfl (by
    exact ⟨{ m with l := l' }, ob, c', tl', rfl, own', rfl, rfl, ⟨h.tb.mono (by omega), h.di, Nat.le_trans h.dn (by omega), hl', (markR_len _ _ _).trans (h.rl.trans (wakeAll_sm h.pk.ps a).symm), by (show 1 ≤ (z.s.wakeAll a).sm.length); rw [wakeAll_sm h.pk.ps a]; exact h.pos, own_sm h.own (markR_len _ _ _)⟩⟩) (pqC)
end Go.Proofs.YtbkdebnkoidicaaGreat
end
section
set_option linter.unusedVariables false
set_option maxRecDepth 20000
namespace Go.Proofs.YtbkdebnkoidicaaGreat
theorem PoIs.T_ {N M : Nat} {z : PoS} {m : PoM} (h : PoIs N z m) (hm : N ≤ M) {T' : List Slt.Pl} (ht : TbOk M T') : PoIs M { z with T := T' } m := ⟨ht, h.di, Nat.le_trans h.dn hm, h.pk.mono hm, h.rl, h.pos, h.own⟩
theorem PoIs.lot {N M : Nat} {z : PoS} {m : PoM} (h : PoIs N z m) (hm : N ≤ M) {s' : PS} {l' : PkM} (hl : PkIs M s' l') (hs : s'.sm.length = z.s.sm.length) : PoIs M { z with s := s' } { m with l := l' } := ⟨h.tb.mono hm, h.di, Nat.le_trans h.dn hm, hl, h.rl.trans hs.symm, by rw [hs]; exact h.pos, h.own⟩
theorem PoIs.lotR {N M : Nat} {z : PoS} {m : PoM} (h : PoIs N z m) (hm : N ≤ M) {s' : PS} {l' : PkM} (hl : PkIs M s' l') (hs : s'.sm.length = z.s.sm.length) (j : Nat) (v : Int) : PoIs M { z with s := s', R := z.R.set j v } { m with l := l' } := ⟨h.tb.mono hm, h.di, Nat.le_trans h.dn hm, hl, (List.length_set ..).trans (h.rl.trans hs.symm), by rw [hs]; exact h.pos, own_sm h.own (List.length_set ..)⟩
theorem PoIs.ends {N M : Nat} {z : PoS} {m : PoM} (h : PoIs N z m) (hm : N ≤ M) {f' : Nat → Nat} {now' : Nat} {d' : DM} (hd : DIs f' now' d') (hn : d'.m.g.n ≤ M) : PoIs M { z with f := f', now := now' } { m with d := d' } := ⟨h.tb.mono hm, hd, hn, h.pk.mono hm, h.rl, h.pos, h.own⟩
theorem stepR_no {sm qm : List Int} {fr to i : Int} (h : (stepR sm qm fr to i).1 ≠ 0) : (stepR sm qm fr to i).2 = (sm, qm) := by
 unfold stepR at *
 split at h
 ·rename_i e; rw [if_pos e]
 ·rename_i e
  rw [if_neg e]
  split at h
  ·exact absurd rfl h
  ·rename_i e2; rw [if_neg e2]
theorem step_no {s : PS} {fr to i : Int} (h : (stepR s.sm s.qm fr to i).1 ≠ 0) : s.step fr to i = s := by
 unfold PS.step
 rw [stepR_no h]
theorem step_sm (s : PS) (fr to i : Int) : (s.step fr to i).sm.length = s.sm.length := stepR_len _ _ _ _ _
theorem park_sm (s : PS) (i : Int) (a : Sp) : (s.park i a).sm.length = s.sm.length := by
 unfold PS.park; split
 ·exact stepR_len _ _ _ _ _
 ·rfl
theorem wake_sm (s : PS) (a : Sp) : (s.wake a).sm.length = s.sm.length := by
 unfold PS.wake; split
 ·exact stepR_len _ _ _ _ _
 ·rfl
theorem stepR_zero {sm qm : List Int} {fr to i : Int} (h : (stepR sm qm fr to i).1 = 0) : ∃ j : Nat, i = (j : Int) ∧ j < sm.length := by
 by_cases hr : i < 0 ∨ (sm.length : Int) ≤ i
 ·rw [stepR_out hr] at h; cases h
 ·exact ⟨i.toNat, by omega, by omega⟩
theorem stR_lt {sm : List Int} {i : Int} (h : (stR sm i).2 = 0) : ∃ j : Nat, i = (j : Int) ∧ j < sm.length := by
 obtain ⟨j, x, e, hx, _⟩ := stR_some h
 exact ⟨j, e, (List.getElem?_eq_some_iff.1 hx).1⟩
theorem wakeR_lt {N : Nat} {s : PS} {l : PkM} (h : PkIs N s l) {a : Sp} (h0 : (s.wakeR a).2 = 0) : ∃ j : Nat, (s.wakeR a).1 = (j : Int) ∧ j < s.sm.length := by
 by_cases hv : vldS a
 ·cases hw : wAt s.W a with
  | nil => rw [wakeR_none s hv hw] at h0; cases h0
  | cons v r =>
   have e : s.wakeR a = (v, 0) := wakeR_some s hv (by rw [hw]; rfl)
   have hvm : v ∈ s.waiting a := by unfold PS.waiting; rw [if_pos hv, hw]; exact List.mem_cons_self ..
   rw [e]; exact wait_lt h hvm
 ·rw [wakeR_bad s hv] at h0; cases h0
theorem wOut_lt {W : List Wt} {z : Wt} (hz : z ∈ W) : (wOut W z.i).length + 1 ≤ W.length := by
 refine Nat.lt_of_le_of_ne (List.length_filter_le _ _) fun e => ?_
 have := List.length_filter_eq_length_iff.1 e z hz
 exact of_decide_eq_true this rfl
theorem wakes_W {s : PS} (h : PsOk s) (a : Sp) : (s.wakeAll a).W.length + (s.waiting a).length ≤ s.W.length := by
 unfold PS.wakeAll PS.waiting
 split
 ·have key : ∀ k, k ≤ (wAt s.W a).length → (((wAt s.W a).take k).foldl PS.out s).W.length + k ≤ s.W.length := fun k => by
   induction k with
   | zero => intro _; exact Nat.le_refl _
   | succ k ih =>
    intro hk
    have h1 := ih (by omega)
    obtain ⟨q1, q2, _⟩ := wakes_ok h a k (by omega)
    obtain ⟨v, hv⟩ := exE (T := wAt s.W a) (i := k) (by omega)
    have hm : v ∈ wAt (((wAt s.W a).take k).foldl PS.out s).W a := by rw [q2]; exact List.mem_of_getElem? (i := 0) (by rw [List.getElem?_drop]; exact hv)
    obtain ⟨w, hw, _, rfl⟩ := wAt_mem.1 hm
    rw [take_get hv, List.foldl_append, List.foldl_cons, List.foldl_nil]
    have h2 : (PS.out (((wAt s.W a).take k).foldl PS.out s) w.i).W.length + 1 ≤ (((wAt s.W a).take k).foldl PS.out s).W.length := wOut_lt hw
    omega
  have := key _ (Nat.le_refl _)
  rwa [List.take_length] at this
 ·simp
theorem laps_snoc (x : Lp) : ∀ (l : List Lp) (z : PoS), z.laps (l ++ [x]) = ((z.laps l).1.all (x.fd, x.dir) 2, (z.laps l).2 ++ (z.laps l).1.s.waiting (x.fd, x.dir))
 | [], z => by simp [PoS.laps]
 | y :: l, z => by
  rw [List.cons_append]
  unfold PoS.laps
  rw [laps_snoc x l]
  simp [List.append_assoc]
def PoS.advS (z : PoS) (to : Nat) : PoS := { z with now := advN11 z.now to }
structure AdW where
 k : Nat
 z : PoS
 m : PoM
 n : Nat
 o : List Int
 ob : Option Nat
 c : Nat
 tl : List Value
theorem ivs_app (A B : List Int) : ivs A ++ ivs B = ivs (A ++ B) := by simp [ivs]
theorem ivs_1 (l : List Int) : (ivs l).all Value.oneCell' = true := fm_all (fun _ => rfl) l
def newS (tasks now : Nat) : PoS := ⟨Slt.freshT 128, fun _ => 18446744073709551615, now, ⟨List.replicate tasks 0, [], []⟩, List.replicate tasks 0⟩
end Go.Proofs.YtbkdebnkoidicaaGreat
end
section
set_option linter.unusedVariables false
set_option maxRecDepth 20000
set_option maxHeartbeats 4000000
namespace Go.Proofs.YtbkdebnkoidicaaGreat
theorem po_open {N : Nat} {z : PoS} (m : PoM) (h : PoIs N z m) (hN : N ≤ 800000) (v : Int) : Spec Tryz.prog 10 [ptrH m.p, .int .i64 v] (poH z m) (fun x H' => x = .tuple #[.agg #[.int .i64 (opnR z.T).1.1, .int .i64 (opnR z.T).1.2], .int .i64 (opnR z.T).2] ∧ H' = poH (z.openE v) m ∧ PoIs (N + 1) (z.openE v) m) := by
 refine Spec.of (E := [(0, ptrH m.p), (1, .int .i64 v)]) Tryz.func10 rfl (by kernel_rfl) Tryz.ntmps10 rfl rfl (fun w => ?_)
 refine WC_seq (WC_region ?_)
 refine WL_do rfl rfl rfl (D_alloc rfl zv30) ?_
 rintro _ _ ⟨b1, rfl, rfl⟩
 refine WLa rfl (WL_nil (WQ_code (WC_seq (WC_seq (WC_region (WLa rfl ?_))))))
 refine WL_do rfl rfl rfl (D_call (po_zero z.R.length m) rfl rfl rfl rfl (pqC)) ?_
 rintro _ _ ⟨_, ⟨rfl, rfl⟩, rfl⟩
 refine WL_nil (WQ_code ?_)
 refine WC_F rfl ?_
 refine WC_skip (WQ_code (WC_seq (WC_region (WLa rfl (WLa rfl ?_)))))
 refine WL_val rfl rfl rfl (R_fieldAddr rfl fa92_0 rfl) ?_
 refine WL_val rfl rfl rfl (R_load rfl sc87 rfl (mmC) rfl) ?_
 refine WLa rfl ?_
 refine WL_do rfl rfl rfl (D_call (s_open m.tb h.tb (by omega) v) rfl rfl rfl rfl (pqC)) ?_
 rintro _ _ ⟨_, ⟨rfl, rfl⟩, rfl⟩
 refine WLa rfl (WLa rfl ?_)
 refine WL_do0 rfl rfl (D_store (vs := [_, _]) rfl Tryz.sizeOf30 rfl rfl rfl rfl rfl (plC) (Nat.le_of_ble_eq_true rfl)) ?_
 rintro _ _ rfl
 refine WLa rfl (WL_nil (WQ_code (WC_ret ?_)))
 refine WQ_ret rfl rfl (.cons (.cell (vs := [_, _]) rfl ag30 (mmC) rfl (atZ)) (.cons (.tmp rfl) .nil)) rfl (by
   exact ⟨rfl, rfl, h.T_ (Nat.le_succ N) (h.tb.opn v)⟩) (pqC)
theorem po_value {N : Nat} {z : PoS} (m : PoM) (h : PoIs N z m) (hN : N ≤ 800000) (n g : Int) : Spec Tryz.prog 33 [ptrH m.p, .agg #[.int .i64 n, .int .i64 g]] (poH z m) (fun x H' => x = .tuple #[.int .i64 (getT z.T n g).1, .int .i64 (getT z.T n g).2] ∧ H' = poH z m) := by
 refine Spec.of (E := [(0, ptrH m.p), (1, .agg #[.int .i64 n, .int .i64 g])]) Tryz.func33 rfl (by kernel_rfl) Tryz.ntmps33 rfl rfl (fun w => ?_)
 refine WC_seq (WC_region ?_)
 refine WL_do rfl rfl rfl (D_box (cs := [_, _]) rfl rfl rfl) ?_
 rintro _ _ ⟨b1, rfl, rfl⟩
 refine WLa rfl (WLa rfl (WL_nil (WQ_code (WC_seq (WC_seq (WC_region (WLa rfl ?_)))))))
 refine WL_do rfl rfl rfl (D_call (po_zero z.R.length m) rfl rfl rfl rfl (pqC)) ?_
 rintro _ _ ⟨_, ⟨rfl, rfl⟩, rfl⟩
 refine WL_nil (WQ_code ?_)
 refine WC_F rfl ?_
 refine WC_skip (WQ_code (WC_seq ?_))
 refine WC_draw _ [(0, true), (1, true), (2, true), (3, true), (4, true), (5, true), (6, true), (7, true), (8, true), (9, true)] followsMixed rfl rfl (by kernel_rfl) .all ?_
 refine WMa rfl (WMa rfl ?_)
 refine WM_val rfl rfl rfl rfl (R_fieldAddr rfl fa92_0 rfl) ?_
 refine WM_val rfl rfl rfl rfl (R_load rfl sc87 rfl (mmC) rfl) ?_
 refine WM_val rfl rfl rfl rfl (R_loadA (vs := [_, _]) rfl ag30 rfl (mmC) rfl (atZ)) ?_
 refine WM_call rfl (Spec.quiet (s_get m.tb h.tb (by omega) n g)) rfl rfl rfl rfl rfl rfl rfl (pqC) ?_
 refine WMa rfl (WMa rfl (WMa rfl (WMa rfl (WM_nil (WQ_code (WC_ret ?_))))))
 refine WQ_ret rfl rfl (.cons (.tmp rfl) (.cons (.tmp rfl) .nil)) rfl (by
   exact ⟨rfl, rfl⟩) (pqC)
theorem po_state {N : Nat} {z : PoS} (m : PoM) (h : PoIs N z m) (hN : N ≤ 800000) (i : Int) : Spec Tryz.prog 28 [ptrH m.p, .int .i64 i] (poH z m) (fun x H' => x = .tuple #[.int .i64 (stR z.s.sm i).1, .int .i64 (stR z.s.sm i).2] ∧ H' = poH z m) := by
 refine Spec.of (E := [(0, ptrH m.p), (1, .int .i64 i)]) Tryz.func28 rfl (by kernel_rfl) Tryz.ntmps28 rfl rfl (fun w => ?_)
 refine WC_seq (WC_region (WLa rfl (WLa rfl (WL_nil (WQ_code (WC_seq (WC_seq (WC_region (WLa rfl ?_)))))))))
 refine WL_do rfl rfl rfl (D_call (po_zero z.R.length m) rfl rfl rfl rfl (pqC)) ?_
 rintro _ _ ⟨_, ⟨rfl, rfl⟩, rfl⟩
 refine WL_nil (WQ_code ?_)
 refine WC_F rfl ?_
 refine WC_skip (WQ_code (WC_seq (WC_region (WLa rfl (WLa rfl ?_)))))
 refine WL_val rfl rfl rfl (R_fieldAddr rfl fa92_2 rfl) ?_
 refine WL_val rfl rfl rfl (R_load rfl sc89 rfl (mmC) rfl) ?_
 refine WLa rfl ?_
 refine WL_do rfl rfl rfl (D_call (p_state m.l h.pk i) rfl rfl rfl rfl (pqC)) ?_
 rintro _ _ ⟨_, ⟨rfl, rfl⟩, rfl⟩
 refine WLa rfl (WLa rfl (WLa rfl (WLa rfl (WL_nil (WQ_code (WC_ret ?_))))))
 refine WQ_ret rfl rfl (.cons (.tmp rfl) (.cons (.tmp rfl) .nil)) rfl (by
   exact ⟨rfl, rfl⟩) (pqC)
theorem po_chk {N : Nat} {z : PoS} (m : PoM) (h : PoIs N z m) (hN : N ≤ 800000) (n g dir : Int) : Spec Tryz.prog 23 [ptrH m.p, .agg #[.int .i64 n, .int .i64 g], .int .i64 dir] (poH z m) (fun x H' => x = .int .i64 (z.chk n g dir) ∧ H' = poH z m) := by
 by_cases he : z.spE n g dir = 0
 ·obtain ⟨hv, hsp⟩ := spE_vld h he
  refine Spec.of (E := [(0, ptrH m.p), (1, .agg #[.int .i64 n, .int .i64 g]), (2, .int .i64 dir)]) Tryz.func23 rfl (by kernel_rfl) Tryz.ntmps23 rfl rfl (fun w => ?_)
  refine WC_seq (WC_region ?_)
  refine WL_do rfl rfl rfl (D_box (cs := [_, _]) rfl rfl rfl) ?_
  rintro _ _ ⟨b1, rfl, rfl⟩
  refine WLa rfl (WL_nil (WQ_code (WC_seq (WC_region (WLa rfl ?_)))))
  refine WL_val rfl rfl rfl (R_loadA (vs := [_, _]) rfl ag30 rfl (mmC) rfl (atZ)) ?_
  refine WLa rfl ?_
  refine WL_do rfl rfl rfl (D_call (po_spot m h (by omega) n g dir) rfl rfl rfl rfl (pqC)) ?_
  rintro _ _ ⟨_, ⟨rfl, rfl⟩, rfl⟩
  rw [he, hsp]
  refine WLa rfl (WLa rfl (WLa rfl ?_))
  refine WL_do rfl rfl rfl (D_alloc rfl zv108) ?_
  rintro _ _ ⟨b2, rfl, rfl⟩
  refine WL_do0 rfl rfl (D_store (vs := [_, _]) rfl Tryz.sizeOf108 rfl rfl rfl rfl rfl (plC) (Nat.le_of_ble_eq_true rfl)) ?_
  rintro _ _ rfl
  refine WLa rfl (WL_nil (WQ_code (WC_seq (WC_seq (WC_region (WLa rfl ?_))))))
  refine WL_val rfl rfl rfl (R_neq rfl rfl rfl) ?_
  refine WL_nil (WQ_code ?_)
  refine WC_dF rfl (by simp) ?_
  refine WC_skip (WQ_code (WC_seq (WC_seq ?_)))
  refine WC_draw _ [(0, true), (1, true), (2, true), (3, true), (4, true), (5, true), (6, true), (7, true), (8, true), (9, true), (10, true)] followsMixed rfl rfl (by kernel_rfl) .all ?_
  refine WMa rfl (WMa rfl ?_)
  refine WM_val rfl rfl rfl rfl (R_fieldAddr rfl fa92_1 rfl) ?_
  refine WM_val rfl rfl rfl rfl (R_load rfl sc88 rfl (mmC) rfl) ?_
  refine WM_val rfl rfl rfl rfl (R_loadA (vs := [_, _]) rfl ag108 rfl (mmC) rfl (atZ)) ?_
  refine WM_call rfl (Spec.quiet (d_pass m.d h.di (n, dir) hv)) rfl rfl rfl rfl rfl rfl rfl (pqC) ?_
  refine WMa rfl (WMa rfl (WMa rfl (WMa rfl (WMa rfl (WM_nil (WQ_code (WC_seq (WC_region (WLa rfl (WL_nil (WQ_code ?_)))))))))))
  refine WC_dec rfl (fun c1 => ?_) (fun c1 => ?_)
  ·refine WC_seq (WC_region (WLa rfl (WL_nil (WQ_code (WC_ret ?_)))))
   refine WQ_ret rfl rfl (.cons (.tmp rfl) .nil) rfl (by
     exact ⟨by unfold PoS.chk; rw [if_pos he, if_pos (by assumption)]; rfl, rfl⟩) (pqC)
  ·refine WC_skip (WQ_code (WC_seq (WC_region (WLa rfl (WL_nil (WQ_code (WC_ret ?_)))))))
   refine WQ_ret rfl rfl (.cons (.tmp rfl) .nil) rfl (by
     exact ⟨by unfold PoS.chk; rw [if_pos he, if_neg (by assumption)]; rfl, rfl⟩) (pqC)
 ·refine Spec.of (E := [(0, ptrH m.p), (1, .agg #[.int .i64 n, .int .i64 g]), (2, .int .i64 dir)]) Tryz.func23 rfl (by kernel_rfl) Tryz.ntmps23 rfl rfl (fun w => ?_)
  refine WC_seq (WC_region ?_)
  refine WL_do rfl rfl rfl (D_box (cs := [_, _]) rfl rfl rfl) ?_
  rintro _ _ ⟨b1, rfl, rfl⟩
  refine WLa rfl (WL_nil (WQ_code (WC_seq (WC_region (WLa rfl ?_)))))
  refine WL_val rfl rfl rfl (R_loadA (vs := [_, _]) rfl ag30 rfl (mmC) rfl (atZ)) ?_
  refine WLa rfl ?_
  refine WL_do rfl rfl rfl (D_call (po_spot m h (by omega) n g dir) rfl rfl rfl rfl (pqC)) ?_
  rintro _ _ ⟨_, ⟨rfl, rfl⟩, rfl⟩
  refine WLa rfl (WLa rfl (WLa rfl ?_))
  refine WL_do rfl rfl rfl (D_alloc rfl zv108) ?_
  rintro _ _ ⟨b2, rfl, rfl⟩
  refine WL_do0 rfl rfl (D_store (vs := [_, _]) rfl Tryz.sizeOf108 rfl rfl rfl rfl rfl (plC) (Nat.le_of_ble_eq_true rfl)) ?_
  rintro _ _ rfl
  refine WLa rfl (WL_nil (WQ_code (WC_seq (WC_seq (WC_region (WLa rfl ?_))))))
  refine WL_val rfl rfl rfl (R_neq rfl rfl rfl) ?_
  refine WL_nil (WQ_code ?_)
  refine WC_dT rfl (by exact he) ?_
  refine WC_seq (WC_region (WLa rfl (WLa rfl (WL_nil (WQ_code (WC_ret ?_))))))
  refine WQ_ret rfl rfl (.cons (.tmp rfl) .nil) rfl (by
    exact ⟨by unfold PoS.chk; rw [if_neg he]; rfl, rfl⟩) (pqC)
theorem po_fin {N : Nat} {z : PoS} (m : PoM) (h : PoIs N z m) (hN : N ≤ 800000) (i : Int) : Spec Tryz.prog 26 [ptrH m.p, .int .i64 i] (poH z m) (fun x H' => ∃ m' : PoM, x = .int .i64 (stepR z.s.sm z.s.qm 1 0 i).1 ∧ H' = poH (z.fin i) m' ∧ m'.p = m.p ∧ PoIs (N + 1) (z.fin i) m') := by
 refine Spec.of (E := [(0, ptrH m.p), (1, .int .i64 i)]) Tryz.func26 rfl (by kernel_rfl) Tryz.ntmps26 rfl rfl (fun w => ?_)
 refine WC_seq (WC_region (WLa rfl (WL_nil (WQ_code (WC_seq (WC_seq (WC_region (WLa rfl ?_))))))))
 refine WL_do rfl rfl rfl (D_call (po_zero z.R.length m) rfl rfl rfl rfl (pqC)) ?_
 rintro _ _ ⟨_, ⟨rfl, rfl⟩, rfl⟩
 refine WL_nil (WQ_code ?_)
 refine WC_F rfl ?_
 refine WC_skip (WQ_code (WC_seq (WC_region (WLa rfl (WLa rfl ?_)))))
 refine WL_val rfl rfl rfl (R_fieldAddr rfl fa92_2 rfl) ?_
 refine WL_val rfl rfl rfl (R_load rfl sc89 rfl (mmC) rfl) ?_
 refine WLa rfl ?_
 refine WL_do rfl rfl rfl (D_call (p_fin m.l h.pk (by omega) i) rfl rfl rfl rfl (pqC)) ?_
 rintro _ _ ⟨_, ⟨l', rfl, rfl, hlp, hl'⟩, rfl⟩
 simp only [poE]
 rw [← hlp]
 refine WLa rfl (WL_nil (WQ_code (WC_ret ?_)))
 refine WQ_ret rfl rfl (.cons (.tmp rfl) .nil) rfl (by
   exact ⟨{ m with l := l' }, rfl, rfl, rfl, h.lot (Nat.le_succ N) hl' (step_sm _ _ _ _)⟩) (pqC)
theorem po_turn {N : Nat} {z : PoS} (m : PoM) (h : PoIs N z m) (hN : N ≤ 800000) (i : Int) : Spec Tryz.prog 27 [ptrH m.p, .int .i64 i] (poH z m) (fun x H' => ∃ m' : PoM, x = .int .i64 (stepR z.s.sm z.s.qm 1 1 i).1 ∧ H' = poH (z.turn i) m' ∧ m'.p = m.p ∧ PoIs (N + 1) (z.turn i) m') := by
 refine Spec.of (E := [(0, ptrH m.p), (1, .int .i64 i)]) Tryz.func27 rfl (by kernel_rfl) Tryz.ntmps27 rfl rfl (fun w => ?_)
 refine WC_seq (WC_region (WLa rfl (WL_nil (WQ_code (WC_seq (WC_seq (WC_region (WLa rfl ?_))))))))
 refine WL_do rfl rfl rfl (D_call (po_zero z.R.length m) rfl rfl rfl rfl (pqC)) ?_
 rintro _ _ ⟨_, ⟨rfl, rfl⟩, rfl⟩
 refine WL_nil (WQ_code ?_)
 refine WC_F rfl ?_
 refine WC_skip (WQ_code (WC_seq (WC_region (WLa rfl (WLa rfl ?_)))))
 refine WL_val rfl rfl rfl (R_fieldAddr rfl fa92_2 rfl) ?_
 refine WL_val rfl rfl rfl (R_load rfl sc89 rfl (mmC) rfl) ?_
 refine WLa rfl ?_
 refine WL_do rfl rfl rfl (D_call (p_turn m.l h.pk (by omega) i) rfl rfl rfl rfl (pqC)) ?_
 rintro _ _ ⟨_, ⟨l', rfl, rfl, hlp, hl'⟩, rfl⟩
 simp only [poE]
 rw [← hlp]
 refine WLa rfl (WL_nil (WQ_code (WC_ret ?_)))
 refine WQ_ret rfl rfl (.cons (.tmp rfl) .nil) rfl (by
   exact ⟨{ m with l := l' }, rfl, rfl, rfl, h.lot (Nat.le_succ N) hl' (step_sm _ _ _ _)⟩) (pqC)
theorem po_start {N : Nat} {z : PoS} (m : PoM) (h : PoIs N z m) (hN : N ≤ 800000) (i : Int) : Spec Tryz.prog 15 [ptrH m.p, .int .i64 i] (poH z m) (fun x H' => ∃ m' : PoM, x = .int .i64 (stepR z.s.sm z.s.qm 0 1 i).1 ∧ H' = poH (z.start i) m' ∧ m'.p = m.p ∧ PoIs (N + 1) (z.start i) m') := by
 by_cases he : (stepR z.s.sm z.s.qm 0 1 i).1 = 0
 ·have e9 : z.start i = { z with s := z.s.step 0 1 i, R := z.R.set i.toNat 0 } := if_pos he
  obtain ⟨j, rfl, hj⟩ := stepR_zero he
  rw [Int.toNat_natCast] at e9
  rw [e9]
  obtain ⟨u9, hu9⟩ := exE (T := z.R) (i := j) (by rw [h.rl]; exact hj)
  have hput : putAt (ivs z.R ++ m.rtl) (0 + j * 1) [.int .i64 0] = ivs (z.R.set j 0) ++ m.rtl := fm_put0 encI1 (0 : Int) hu9 (j := 0) (vs := [.int .i64 0]) (by simp) rfl (tl := m.rtl)
  refine Spec.of (E := [(0, ptrH m.p), (1, .int .i64 (j : Int))]) Tryz.func15 rfl (by kernel_rfl) Tryz.ntmps15 rfl rfl (fun w => ?_)
  refine WC_seq (WC_region (WLa rfl (WL_nil (WQ_code (WC_seq (WC_seq (WC_region (WLa rfl ?_))))))))
  refine WL_do rfl rfl rfl (D_call (po_zero z.R.length m) rfl rfl rfl rfl (pqC)) ?_
  rintro _ _ ⟨_, ⟨rfl, rfl⟩, rfl⟩
  refine WL_nil (WQ_code ?_)
  refine WC_F rfl ?_
  refine WC_skip (WQ_code (WC_seq (WC_region (WLa rfl (WLa rfl ?_)))))
  refine WL_val rfl rfl rfl (R_fieldAddr rfl fa92_2 rfl) ?_
  refine WL_val rfl rfl rfl (R_load rfl sc89 rfl (mmC) rfl) ?_
  refine WLa rfl ?_
  refine WL_do rfl rfl rfl (D_call (p_start m.l h.pk (by omega) (j : Int)) rfl rfl rfl rfl (pqC)) ?_
  rintro _ _ ⟨_, ⟨l', rfl, rfl, hlp, hl'⟩, rfl⟩
  simp only [poE]
  rw [← hlp, he]
  refine WLa rfl (WL_nil (WQ_code (WC_seq (WC_seq (WC_region (WLa rfl ?_))))))
  refine WL_val rfl rfl rfl (R_eql rfl rfl rfl) ?_
  refine WL_nil (WQ_code ?_)
  refine WC_dT rfl (by simp) ?_
  refine WC_region (WLa rfl (WLa rfl ?_))
  refine WL_val rfl rfl rfl (R_fieldAddr rfl fa92_3 rfl) ?_
  refine WL_val rfl rfl rfl (R_load rfl sc90 rfl (mmC) rfl) ?_
  refine WLa rfl ?_
  refine WL_val rfl rfl rfl (R_indexAddrN rfl Tryz.underlying90 Tryz.sizeOf45 rfl rfl (by rw [h.rl]; exact hj)) ?_
  refine WL_do0 rfl rfl (D_store (vs := [_]) rfl Tryz.sizeOf45 rfl rfl rfl rfl rfl (plC) (by exact fm_room0 encI1 (show j < z.R.length by rw [h.rl]; exact hj) (j := 0) (by omega))) ?_
  rintro _ _ rfl
  rw [hput]
  rw [show z.R.length = (z.R.set j 0).length from (List.length_set ..).symm]
  refine WL_nil (WQ_code (WC_seq (WC_region (WLa rfl (WLa rfl (WL_nil (WQ_code (WC_ret ?_))))))))
  refine WQ_ret rfl rfl (.cons (.tmp rfl) .nil) rfl (by
    exact ⟨{ m with l := l' }, rfl, rfl, rfl, h.lotR (Nat.le_succ N) hl' (step_sm _ _ _ _) j 0⟩) (pqC)
 ·have e9 : z.start i = z := if_neg he
  rw [e9]
  refine Spec.of (E := [(0, ptrH m.p), (1, .int .i64 i)]) Tryz.func15 rfl (by kernel_rfl) Tryz.ntmps15 rfl rfl (fun w => ?_)
  refine WC_seq (WC_region (WLa rfl (WL_nil (WQ_code (WC_seq (WC_seq (WC_region (WLa rfl ?_))))))))
  refine WL_do rfl rfl rfl (D_call (po_zero z.R.length m) rfl rfl rfl rfl (pqC)) ?_
  rintro _ _ ⟨_, ⟨rfl, rfl⟩, rfl⟩
  refine WL_nil (WQ_code ?_)
  refine WC_F rfl ?_
  refine WC_skip (WQ_code (WC_seq (WC_region (WLa rfl (WLa rfl ?_)))))
  refine WL_val rfl rfl rfl (R_fieldAddr rfl fa92_2 rfl) ?_
  refine WL_val rfl rfl rfl (R_load rfl sc89 rfl (mmC) rfl) ?_
  refine WLa rfl ?_
  refine WL_do rfl rfl rfl (D_call (p_start m.l h.pk (by omega) i) rfl rfl rfl rfl (pqC)) ?_
  rintro _ _ ⟨_, ⟨l', rfl, rfl, hlp, hl'⟩, rfl⟩
  simp only [poE]
  rw [← hlp]
  refine WLa rfl (WL_nil (WQ_code (WC_seq (WC_seq (WC_region (WLa rfl ?_))))))
  refine WL_val rfl rfl rfl (R_eql rfl rfl rfl) ?_
  refine WL_nil (WQ_code ?_)
  refine WC_dF rfl (by exact he) ?_
  refine WC_skip (WQ_code (WC_seq (WC_region (WLa rfl (WLa rfl (WL_nil (WQ_code (WC_ret ?_))))))))
  refine WQ_ret rfl rfl (.cons (.tmp rfl) .nil) rfl (by
    exact ⟨{ m with l := l' }, rfl, rfl, rfl, by have h7 := h.lot (Nat.le_succ N) hl' (step_sm _ _ _ _); rw [step_no he] at h7; exact h7⟩) (pqC)
theorem po_rsn {N : Nat} {z : PoS} (m : PoM) (h : PoIs N z m) (hN : N ≤ 800000) (i : Int) : Spec Tryz.prog 34 [ptrH m.p, .int .i64 i] (poH z m) (fun x H' => x = .tuple #[.int .i64 (z.rsn i).1, .int .i64 (z.rsn i).2] ∧ H' = poH z m) := by
 refine Spec.of (E := [(0, ptrH m.p), (1, .int .i64 i)]) Tryz.func34 rfl (by kernel_rfl) Tryz.ntmps34 rfl rfl (fun w => ?_)
 refine WC_seq (WC_region (WLa rfl (WLa rfl (WL_nil (WQ_code (WC_seq (WC_region (WLa rfl (WLa rfl ?_)))))))))
 refine WL_do rfl rfl rfl (D_call (po_state m h (by omega) i) rfl rfl rfl rfl (pqC)) ?_
 rintro _ _ ⟨_, ⟨rfl, rfl⟩, rfl⟩
 refine WLa rfl (WLa rfl (WLa rfl (WLa rfl (WLa rfl (WL_nil (WQ_code (WC_seq (WC_block (WC_seq (WC_region (WLa rfl ?_)))))))))))
 refine WL_val rfl rfl rfl (R_neq rfl rfl rfl) ?_
 refine WLa rfl (WL_nil (WQ_code ?_))
 refine WC_dec rfl (fun c1 => ?_) (fun c1 => ?_)
 ·refine WC_seq (WC_region (WLa rfl (WLa rfl (WLa rfl (WL_nil (WQ_code (WC_ret ?_)))))))
  refine WQ_ret rfl rfl (.cons (.tmp rfl) (.cons (.tmp rfl) .nil)) rfl (by
    exact ⟨by unfold PoS.rsn; rw [if_pos (by assumption)]; rfl, rfl⟩) (pqC)
 ·refine WC_seq (WC_region (WLa rfl ?_))
  refine WL_val rfl rfl rfl (R_neq rfl rfl rfl) ?_
  refine WLa rfl (WL_nil (WQ_code ?_))
  refine WC_dec rfl (fun c2 => ?_) (fun c2 => ?_)
  ·refine WC_seq (WC_region (WLa rfl (WLa rfl (WL_nil (WQ_code (WC_ret ?_))))))
   refine WQ_ret rfl rfl (.cons (.tmp rfl) (.cons (.tmp rfl) .nil)) rfl (by
     exact ⟨by unfold PoS.rsn; rw [if_neg (by omega), if_pos (by assumption)]; rfl, rfl⟩) (pqC)
  ·refine WC_skip (WQ_code (WC_seq (WC_region (WLa rfl (WLa rfl ?_)))))
   refine WL_val rfl rfl rfl (R_fieldAddr rfl fa92_3 rfl) ?_
   refine WL_val rfl rfl rfl (R_load rfl sc90 rfl (mmC) rfl) ?_
   refine WLa rfl ?_
   obtain ⟨j, rfl, hj⟩ := stR_lt (sm := z.s.sm) (i := i) (by omega)
   obtain ⟨u9, hu9⟩ := exE (T := z.R) (i := j) (by rw [h.rl]; exact hj)
   refine WL_val rfl rfl rfl (R_indexAddrN rfl Tryz.underlying90 Tryz.sizeOf45 rfl rfl (by rw [h.rl]; exact hj)) ?_
   refine WL_val rfl rfl rfl (R_load (v := .int .i64 u9) rfl sc45 rfl (mmC) (fm_get0 encI1 hu9 (j := 0) (by omega))) ?_
   refine WLa rfl (WLa rfl (WL_nil (WQ_code (WC_ret ?_))))
   refine WQ_ret rfl rfl (.cons (.tmp rfl) (.cons (.tmp rfl) .nil)) rfl (by
     exact ⟨by unfold PoS.rsn; rw [if_neg (by omega), if_neg (by omega), Int.toNat_natCast, List.getD_eq_getElem?_getD, hu9]; rfl, rfl⟩) (pqC)
theorem po_where {N : Nat} {z : PoS} (m : PoM) (h : PoIs N z m) (hN : N ≤ 800000) (i : Int) : Spec Tryz.prog 22 [ptrH m.p, .int .i64 i] (poH z m) (fun x H' => x = .tuple #[.agg #[.int .i64 (z.whr i).1.1.1, .int .i64 (z.whr i).1.1.2], .int .i64 (z.whr i).1.2, .int .i64 (z.whr i).2] ∧ H' = poH z m) := by
 refine Spec.of (E := [(0, ptrH m.p), (1, .int .i64 i)]) Tryz.func22 rfl (by kernel_rfl) Tryz.ntmps22 rfl rfl (fun w => ?_)
 refine WC_seq (WC_region ?_)
 refine WL_do rfl rfl rfl (D_alloc rfl zv30) ?_
 rintro _ _ ⟨b1, rfl, rfl⟩
 refine WLa rfl (WLa rfl (WL_nil (WQ_code (WC_seq (WC_seq (WC_region (WLa rfl ?_)))))))
 refine WL_do rfl rfl rfl (D_call (po_zero z.R.length m) rfl rfl rfl rfl (pqC)) ?_
 rintro _ _ ⟨_, ⟨rfl, rfl⟩, rfl⟩
 refine WL_nil (WQ_code ?_)
 refine WC_F rfl ?_
 refine WC_skip (WQ_code (WC_seq (WC_region (WLa rfl (WLa rfl ?_)))))
 refine WL_val rfl rfl rfl (R_fieldAddr rfl fa92_2 rfl) ?_
 refine WL_val rfl rfl rfl (R_load rfl sc89 rfl (mmC) rfl) ?_
 refine WLa rfl ?_
 refine WL_do rfl rfl rfl (D_call (p_where m.l h.pk i) rfl rfl rfl rfl (pqC)) ?_
 rintro _ _ ⟨_, ⟨rfl, rfl⟩, rfl⟩
 refine WLa rfl (WLa rfl (WLa rfl ?_))
 refine WL_do rfl rfl rfl (D_alloc rfl zv108) ?_
 rintro _ _ ⟨b2, rfl, rfl⟩
 refine WL_do0 rfl rfl (D_store (vs := [_, _]) rfl Tryz.sizeOf108 rfl rfl rfl rfl rfl (plC) (Nat.le_of_ble_eq_true rfl)) ?_
 rintro _ _ rfl
 refine WLa rfl (WL_nil (WQ_code (WC_seq (WC_seq (WC_region (WLa rfl ?_))))))
 refine WL_val rfl rfl rfl (R_neq rfl rfl rfl) ?_
 refine WL_nil (WQ_code ?_)
 refine WC_dec rfl (fun c1 => ?_) (fun c1 => ?_)
 ·refine WC_seq (WC_region ?_)
  refine WL_val rfl rfl rfl (R_build rfl zv30 pl30 rfl rfl) ?_
  refine WLa rfl ?_
  refine WL_do0 rfl rfl (D_store (vs := [_, _]) rfl Tryz.sizeOf30 rfl rfl rfl rfl rfl (plC) (Nat.le_of_ble_eq_true rfl)) ?_
  rintro _ _ rfl
  refine WLa rfl (WLa rfl (WL_nil (WQ_code (WC_ret ?_))))
  refine WQ_ret rfl rfl (.cons (.cell (vs := [_, _]) rfl ag30 (mmC) rfl (atZ)) (.cons (.tmp rfl) (.cons (.tmp rfl) .nil))) rfl (by
    exact ⟨by unfold PoS.whr; rw [if_pos (by assumption)]; rfl, rfl⟩) (pqC)
 ·have hz0 : ¬ (z.s.whr i).2 ≠ 0 := c1
  refine WC_skip (WQ_code (WC_seq ?_))
  refine WC_drawB ([⟨some b2, _⟩, ⟨some m.p, _⟩]) [(0, .q), (1, .q), (2, .q), (3, .q), (4, .q), (5, .q), (6, .n [10]), (7, .q), (8, .q), (9, .q), (10, .b []), (11, .n []), (12, .q)] followsMixed rfl rfl (by kernel_rfl) pqC ?_
  refine WB_val rfl rfl rfl rfl (R_move rfl rfl) ?_
  refine WB_val rfl rfl rfl rfl (R_nilCheck rfl rfl) ?_
  refine WB_val rfl rfl rfl rfl (R_fieldAddr rfl fa92_0 rfl) ?_
  refine WB_val rfl rfl rfl rfl (R_load rfl sc87 rfl (mmC) rfl) ?_
  refine WB_val rfl rfl rfl rfl (R_fieldAddr rfl fa108_0 rfl) ?_
  refine WB_val rfl rfl rfl rfl (R_load rfl sc3 rfl (mmC) rfl) ?_
  refine WB_do rfl rfl rfl rfl (.cons rfl rfl (B_alloc rfl zv30) .nil) (fun _ => D_call (s_at m.tb h.tb (by omega) (z.s.whr i).1.1) rfl rfl rfl rfl (pqC)) ?_
  rintro _ _ ⟨_, ⟨rfl, rfl⟩, rfl⟩
  refine ⟨⟨_, pqC⟩, ?_⟩
  refine WB_val rfl rfl rfl rfl (R_move rfl rfl) ?_
  refine WB_val rfl rfl rfl rfl (R_extract rfl rfl rfl) ?_
  refine WB_val rfl rfl rfl rfl (R_extract rfl rfl rfl) ?_
  refine WB_birth rfl rfl rfl rfl .nil (B_alloc rfl zv30) (fun b3 => ?_)
  refine WB_do0 rfl rfl rfl .nil (fun _ => D_store (vs := [_, _]) rfl Tryz.sizeOf30 rfl rfl rfl rfl rfl (plC) (Nat.le_of_ble_eq_true rfl)) ?_
  rintro _ _ rfl
  refine ⟨⟨_, pqC⟩, ?_⟩
  refine WB_val rfl rfl rfl rfl (R_assign rfl rfl) ?_
  refine WB_nil (WQ_code (WC_seq ?_))
  refine WC_drawR [⟨some b1, _⟩] [(0, true), (1, true), (2, true), (3, true), (4, false), (5, true), (6, true)] followsMixed rfl rfl (by kernel_rfl) (pqC) ?_
  refine WM_val rfl rfl rfl rfl (R_loadA (vs := [_, _]) rfl ag30 rfl (mmC) rfl (atZ)) ?_
  refine WM_val rfl rfl rfl rfl (R_fieldAddr rfl fa108_1 rfl) ?_
  refine WM_val rfl rfl rfl rfl (R_load rfl sc44 rfl (mmC) rfl) ?_
  refine WMa rfl ?_
  refine WM_do0 rfl rfl rfl (D_store (vs := [_, _]) rfl Tryz.sizeOf30 rfl rfl rfl rfl rfl (plC) (Nat.le_of_ble_eq_true rfl)) ?_
  rintro _ _ rfl
  refine ⟨⟨_, pqC⟩, ?_⟩
  refine WMa rfl (WMa rfl (WM_nil (WQ_code (WC_ret ?_))))
  refine WQ_ret rfl rfl (.cons (.cell (vs := [_, _]) rfl ag30 (mmC) rfl (atZ)) (.cons (.tmp rfl) (.cons (.tmp rfl) .nil))) rfl (by
    exact ⟨by unfold PoS.whr; rw [if_neg hz0]; rfl, rfl⟩) (pqC)
theorem po_ready {N : Nat} {z : PoS} (m : PoM) (h : PoIs N z m) (hN : N ≤ 800000) : Spec Tryz.prog 21 [ptrH m.p] (poH z m) (fun x H' => ∃ (ob : Option Nat) (c : Nat) (tl : List Value), x = slV ob z.s.qm.length c ∧ Own ob z.s.qm.length c 1 (ivs z.s.qm) tl ∧ H' = ⟨ob, cl (ivs z.s.qm ++ tl) 3⟩ :: poH z m) := by
 refine Spec.of (E := [(0, ptrH m.p)]) Tryz.func21 rfl (by kernel_rfl) Tryz.ntmps21 rfl rfl (fun w => ?_)
 refine WC_seq (WC_region (WLa rfl (WL_nil (WQ_code (WC_seq (WC_seq (WC_region (WLa rfl ?_))))))))
 refine WL_do rfl rfl rfl (D_call (po_zero z.R.length m) rfl rfl rfl rfl (pqC)) ?_
 rintro _ _ ⟨_, ⟨rfl, rfl⟩, rfl⟩
 refine WL_nil (WQ_code ?_)
 refine WC_F rfl ?_
 refine WC_skip (WQ_code (WC_seq (WC_region (WLa rfl (WLa rfl ?_)))))
 refine WL_val rfl rfl rfl (R_fieldAddr rfl fa92_2 rfl) ?_
 refine WL_val rfl rfl rfl (R_load rfl sc89 rfl (mmC) rfl) ?_
 refine WL_do rfl rfl rfl (D_call (p_ready m.l h.pk) rfl rfl rfl rfl (pqC)) ?_
 rintro _ _ ⟨_, ⟨ob, c', tl', rfl, own', rfl⟩, rfl⟩
 refine WLa rfl (WL_nil (WQ_code (WC_ret ?_)))
 refine WQ_ret rfl rfl (.cons (.tmp rfl) .nil) rfl (by
   exact ⟨ob, c', tl', rfl, own', rfl⟩) (pqC)
theorem po_now {N : Nat} {z : PoS} (m : PoM) (h : PoIs N z m) (hN : N ≤ 800000) : Spec Tryz.prog 35 [ptrH m.p] (poH z m) (fun x H' => x = .int .u64 (z.now : Int) ∧ H' = poH z m) := by
 refine Spec.of (E := [(0, ptrH m.p)]) Tryz.func35 rfl (by kernel_rfl) Tryz.ntmps35 rfl rfl (fun w => ?_)
 refine WC_seq (WC_region (WLa rfl (WL_nil (WQ_code (WC_seq (WC_seq (WC_region (WLa rfl ?_))))))))
 refine WL_do rfl rfl rfl (D_call (po_zero z.R.length m) rfl rfl rfl rfl (pqC)) ?_
 rintro _ _ ⟨_, ⟨rfl, rfl⟩, rfl⟩
 refine WL_nil (WQ_code ?_)
 refine WC_F rfl ?_
 refine WC_skip (WQ_code (WC_seq (WC_region (WLa rfl (WLa rfl ?_)))))
 refine WL_val rfl rfl rfl (R_fieldAddr rfl fa92_1 rfl) ?_
 refine WL_val rfl rfl rfl (R_load rfl sc88 rfl (mmC) rfl) ?_
 refine WL_do rfl rfl rfl (D_call (d_now m.d h.di) rfl rfl rfl rfl (pqC)) ?_
 rintro _ _ ⟨_, ⟨rfl, rfl⟩, rfl⟩
 refine WLa rfl (WL_nil (WQ_code (WC_ret ?_)))
 refine WQ_ret rfl rfl (.cons (.tmp rfl) .nil) rfl (by
   exact ⟨rfl, rfl⟩) (pqC)
theorem po_next {N : Nat} {z : PoS} (m : PoM) (h : PoIs N z m) (hN : N ≤ 800000) : Spec Tryz.prog 36 [ptrH m.p] (poH z m) (fun x H' => ∃ k : Nat, x = .int .u64 (k : Int) ∧ H' = poH z m ∧ IsNx z.f z.now k) := by
 refine Spec.of (E := [(0, ptrH m.p)]) Tryz.func36 rfl (by kernel_rfl) Tryz.ntmps36 rfl rfl (fun w => ?_)
 refine WC_seq (WC_region (WLa rfl (WL_nil (WQ_code (WC_seq (WC_seq (WC_region (WLa rfl ?_))))))))
 refine WL_do rfl rfl rfl (D_call (po_zero z.R.length m) rfl rfl rfl rfl (pqC)) ?_
 rintro _ _ ⟨_, ⟨rfl, rfl⟩, rfl⟩
 refine WL_nil (WQ_code ?_)
 refine WC_F rfl ?_
 refine WC_skip (WQ_code (WC_seq (WC_region (WLa rfl (WLa rfl ?_)))))
 refine WL_val rfl rfl rfl (R_fieldAddr rfl fa92_1 rfl) ?_
 refine WL_val rfl rfl rfl (R_load rfl sc88 rfl (mmC) rfl) ?_
 refine WL_do rfl rfl rfl (D_call (d_next m.d h.di) rfl rfl rfl rfl (pqC)) ?_
 rintro _ _ ⟨_, ⟨k9, rfl, rfl, hk9⟩, rfl⟩
 refine WLa rfl (WL_nil (WQ_code (WC_ret ?_)))
 refine WQ_ret rfl rfl (.cons (.tmp rfl) .nil) rfl (by
   exact ⟨k9, rfl, rfl, hk9⟩) (pqC)
end Go.Proofs.YtbkdebnkoidicaaGreat
end
section
set_option linter.unusedVariables false
set_option maxRecDepth 20000
set_option maxHeartbeats 4000000
namespace Go.Proofs.YtbkdebnkoidicaaGreat
theorem own_rep (b k : Nat) (h : k ≤ 64) : Own (some b) (List.replicate k (0 : Int)).length k 1 (ivs (List.replicate k 0)) [] := by
 have e : (List.replicate k (0 : Int)).length = k := List.length_replicate
 refine ⟨?_, ?_, by rw [e]; exact Nat.le_refl _, by omega, fun e => by cases e⟩
 ·rw [fm_length encI1]
 ·rw [fm_length encI1, e]; rfl
theorem clsT_no {T : List Slt.Pl} {n g : Int} (h : ¬ (getT T n g).2 = 0) : clsT T n g = T := by
 unfold clsT
 unfold getT at h
 cases hq : tbAt T n g with
 | none => rfl
 | some q => rw [hq] at h; exact absurd rfl h
theorem po_new (k now : Nat) (h1 : 1 ≤ k) (h2 : k ≤ 64) (h3 : now < 18446744073709551615) : Spec Tryz.prog 9 [.int .i64 (k : Int), .int .u64 (now : Int)] [] (fun x H' => ∃ m : PoM, x = .tuple #[ptrH m.p, .int .i64 0] ∧ H' = poH (newS k now) m ∧ PoIs 0 (newS k now) m) := by
 refine Spec.of (E := [(0, .int .i64 (k : Int)), (1, .int .u64 (now : Int))]) Tryz.func9 rfl (by kernel_rfl) Tryz.ntmps9 rfl rfl (fun w => ?_)
 refine WC_seq (WC_region (WLa rfl (WLa rfl (WL_nil (WQ_code (WC_seq (WC_region (WLa rfl ?_))))))))
 refine WL_do rfl rfl rfl (D_call (p_new k h1 h2) rfl rfl rfl rfl (pqC)) ?_
 rintro _ _ ⟨_, ⟨l0, rfl, rfl, hl0⟩, rfl⟩
 refine WLa rfl (WLa rfl (WLa rfl (WLa rfl (WLa rfl (WL_nil (WQ_code (WC_seq (WC_region (WLa rfl ?_)))))))))
 refine WL_do rfl rfl rfl (D_call (d_new now h3) rfl rfl rfl rfl (pqC)) ?_
 rintro _ _ ⟨_, ⟨d0, rfl, rfl, hdn0, hd0⟩, rfl⟩
 refine WLa rfl (WLa rfl (WLa rfl (WLa rfl (WLa rfl (WL_nil (WQ_code (WC_seq (WC_region ?_))))))))
 refine WL_do rfl rfl rfl (D_call (s_new) rfl rfl rfl rfl (pqC)) ?_
 rintro _ _ ⟨_, ⟨tb0, rfl, rfl⟩, rfl⟩
 refine WLa rfl (WLa rfl (WLa rfl (WLa rfl (WLa rfl (WL_nil (WQ_code (WC_seq (WC_seq (WC_region (WLa rfl ?_))))))))))
 refine WL_val rfl rfl rfl (R_neq rfl rfl rfl) ?_
 refine WLa rfl ?_
 refine WL_set (s := 28) (v := .bool false) rfl (by simp) ?_
 refine WLa rfl ?_
 refine WL_val rfl rfl rfl (R_neq rfl rfl rfl) ?_
 refine WL_set (s := 30) (v := .bool false) rfl (by simp) ?_
 refine WLa rfl (WL_nil (WQ_code ?_))
 refine WC_F rfl ?_
 refine WC_skip (WQ_code (WC_seq (WC_region (WLa rfl (WLa rfl (WLa rfl (WLa rfl ?_)))))))
 refine WL_do rfl rfl rfl (D_make (n := k) rfl si90 rfl rfl (by omega) (by omega)) ?_
 rintro _ _ ⟨b1, rfl, rfl⟩
 rw [show (List.replicate k [Value.int .i64 0]).flatten = ivs (List.replicate k 0) ++ [] from by rw [List.append_nil]; exact fm_rep (enc := encI) 0 k]
 have hlr : (List.replicate k (0 : Int)).length = k := List.length_replicate
 refine WL_val rfl rfl rfl (R_build rfl zv92 pl92 rfl rfl) ?_
 refine WL_do rfl rfl rfl (D_box (cs := [_, _, _, _]) rfl rfl rfl) ?_
 rintro _ _ ⟨b2, rfl, rfl⟩
 refine WLa rfl (WLa rfl (WL_nil (WQ_code (WC_ret ?_))))
 refine WQ_ret rfl rfl (.cons (.tmp rfl) (.cons (.tmp rfl) .nil)) rfl (by
   have hH : (⟨some b2, cl [ptrH tb0.p, ptrH d0.p, ptrQ l0.p, .slice (some ⟨b1, 0, none⟩) k k] 92⟩ :: ⟨some b1, cl (ivs (List.replicate k 0) ++ []) 45⟩ :: (TBH tb0 (Slt.freshT 128) ++ (DLH now d0 ++ PKH l0)) : Heap) = poH (newS k now) ⟨b2, tb0, d0, l0, b1, k, []⟩ := by unfold newS; dsimp only [poH, poE]; rw [hlr]
   exact ⟨⟨b2, tb0, d0, l0, b1, k, []⟩, rfl, hH, ⟨TbOk.new, hd0, by rw [hdn0]; exact Nat.le_refl 0, hl0, rfl, by (show 1 ≤ (List.replicate k (0 : Int)).length); rw [hlr]; exact h1, own_rep b1 k h2⟩⟩) (pqC)
theorem po_new_bad (k : Int) (now : Nat) (h3 : now ≤ 18446744073709551615) (hb : k < 1 ∨ 64 < k ∨ now = 18446744073709551615) : Spec Tryz.prog 9 [.int .i64 k, .int .u64 (now : Int)] [] (fun x H' => x = .tuple #[.pointer none, .int .i64 2] ∧ H' = []) := by
 by_cases hk : k < 1 ∨ 64 < k
 ·by_cases hn : now = 18446744073709551615
  ·subst hn
   refine Spec.of (E := [(0, .int .i64 k), (1, .int .u64 ((18446744073709551615 : Nat) : Int))]) Tryz.func9 rfl (by kernel_rfl) Tryz.ntmps9 rfl rfl (fun w => ?_)
   refine WC_seq (WC_region (WLa rfl (WLa rfl (WL_nil (WQ_code (WC_seq (WC_region (WLa rfl ?_))))))))
   refine WL_do rfl rfl rfl (D_call (pnew_bad k hk) rfl rfl rfl rfl (pqC)) ?_
   rintro _ _ ⟨_, ⟨rfl, rfl⟩, rfl⟩
   refine WLa rfl (WLa rfl (WLa rfl (WLa rfl (WLa rfl (WL_nil (WQ_code (WC_seq (WC_region (WLa rfl ?_)))))))))
   refine WL_do rfl rfl rfl (D_call (dnew_bad) rfl rfl rfl rfl (pqC)) ?_
   rintro _ _ ⟨_, ⟨rfl, rfl⟩, rfl⟩
   refine WLa rfl (WLa rfl (WLa rfl (WLa rfl (WLa rfl (WL_nil (WQ_code (WC_seq (WC_region ?_))))))))
   refine WL_do rfl rfl rfl (D_call (s_new) rfl rfl rfl rfl (pqC)) ?_
   rintro _ _ ⟨_, ⟨tb0, rfl, rfl⟩, rfl⟩
   refine WLa rfl (WLa rfl (WLa rfl (WLa rfl (WLa rfl (WL_nil (WQ_code (WC_seq (WC_seq (WC_region (WLa rfl ?_))))))))))
   refine WL_val rfl rfl rfl (R_neq rfl rfl rfl) ?_
   refine WL_set (s := 27) (v := .bool true) rfl (by simp) ?_
   refine WLa rfl ?_
   refine WL_skip rfl rfl rfl ?_
   refine WL_skip rfl rfl rfl ?_
   refine WLa rfl (WL_nil (WQ_code ?_))
   refine WC_T rfl ?_
   refine WC_seq (WC_region (WLa rfl (WLa rfl (WL_nil (WQ_code (WC_ret ?_))))))
   refine WQ_ret rfl rfl (.cons (.tmp rfl) (.cons (.tmp rfl) .nil)) rfl (by
     exact ⟨rfl, rfl⟩) (pqC)
  ·refine Spec.of (E := [(0, .int .i64 k), (1, .int .u64 (now : Int))]) Tryz.func9 rfl (by kernel_rfl) Tryz.ntmps9 rfl rfl (fun w => ?_)
   refine WC_seq (WC_region (WLa rfl (WLa rfl (WL_nil (WQ_code (WC_seq (WC_region (WLa rfl ?_))))))))
   refine WL_do rfl rfl rfl (D_call (pnew_bad k hk) rfl rfl rfl rfl (pqC)) ?_
   rintro _ _ ⟨_, ⟨rfl, rfl⟩, rfl⟩
   refine WLa rfl (WLa rfl (WLa rfl (WLa rfl (WLa rfl (WL_nil (WQ_code (WC_seq (WC_region (WLa rfl ?_)))))))))
   refine WL_do rfl rfl rfl (D_call (d_new now (by omega)) rfl rfl rfl rfl (pqC)) ?_
   rintro _ _ ⟨_, ⟨d0, rfl, rfl, hdn0, hd0⟩, rfl⟩
   refine WLa rfl (WLa rfl (WLa rfl (WLa rfl (WLa rfl (WL_nil (WQ_code (WC_seq (WC_region ?_))))))))
   refine WL_do rfl rfl rfl (D_call (s_new) rfl rfl rfl rfl (pqC)) ?_
   rintro _ _ ⟨_, ⟨tb0, rfl, rfl⟩, rfl⟩
   refine WLa rfl (WLa rfl (WLa rfl (WLa rfl (WLa rfl (WL_nil (WQ_code (WC_seq (WC_seq (WC_region (WLa rfl ?_))))))))))
   refine WL_val rfl rfl rfl (R_neq rfl rfl rfl) ?_
   refine WL_set (s := 27) (v := .bool true) rfl (by simp) ?_
   refine WLa rfl ?_
   refine WL_skip rfl rfl rfl ?_
   refine WL_skip rfl rfl rfl ?_
   refine WLa rfl (WL_nil (WQ_code ?_))
   refine WC_T rfl ?_
   refine WC_seq (WC_region (WLa rfl (WLa rfl (WL_nil (WQ_code (WC_ret ?_))))))
   refine WQ_ret rfl rfl (.cons (.tmp rfl) (.cons (.tmp rfl) .nil)) rfl (by
     exact ⟨rfl, rfl⟩) (pqC)
 ·have hn : now = 18446744073709551615 := by omega
  subst hn
  obtain ⟨k, rfl⟩ := Int.eq_ofNat_of_zero_le (show 0 ≤ k by omega)
  refine Spec.of (E := [(0, .int .i64 (k : Int)), (1, .int .u64 ((18446744073709551615 : Nat) : Int))]) Tryz.func9 rfl (by kernel_rfl) Tryz.ntmps9 rfl rfl (fun w => ?_)
  refine WC_seq (WC_region (WLa rfl (WLa rfl (WL_nil (WQ_code (WC_seq (WC_region (WLa rfl ?_))))))))
  refine WL_do rfl rfl rfl (D_call (p_new k (by omega) (by omega)) rfl rfl rfl rfl (pqC)) ?_
  rintro _ _ ⟨_, ⟨l0, rfl, rfl, hl0⟩, rfl⟩
  refine WLa rfl (WLa rfl (WLa rfl (WLa rfl (WLa rfl (WL_nil (WQ_code (WC_seq (WC_region (WLa rfl ?_)))))))))
  refine WL_do rfl rfl rfl (D_call (dnew_bad) rfl rfl rfl rfl (pqC)) ?_
  rintro _ _ ⟨_, ⟨rfl, rfl⟩, rfl⟩
  refine WLa rfl (WLa rfl (WLa rfl (WLa rfl (WLa rfl (WL_nil (WQ_code (WC_seq (WC_region ?_))))))))
  refine WL_do rfl rfl rfl (D_call (s_new) rfl rfl rfl rfl (pqC)) ?_
  rintro _ _ ⟨_, ⟨tb0, rfl, rfl⟩, rfl⟩
  refine WLa rfl (WLa rfl (WLa rfl (WLa rfl (WLa rfl (WL_nil (WQ_code (WC_seq (WC_seq (WC_region (WLa rfl ?_))))))))))
  refine WL_val rfl rfl rfl (R_neq rfl rfl rfl) ?_
  refine WL_set (s := 27) (v := .bool false) rfl (by simp) ?_
  refine WLa rfl (WLa rfl ?_)
  refine WL_val rfl rfl rfl (R_neq rfl rfl rfl) ?_
  refine WL_set (s := 30) (v := .bool true) rfl (by simp) ?_
  refine WLa rfl (WL_nil (WQ_code ?_))
  refine WC_T rfl ?_
  refine WC_seq (WC_region (WLa rfl (WLa rfl (WL_nil (WQ_code (WC_ret ?_))))))
  refine WQ_ret rfl rfl (.cons (.tmp rfl) (.cons (.tmp rfl) .nil)) rfl (by
    exact ⟨rfl, rfl⟩) (pqC)
theorem po_close {N : Nat} {z : PoS} (m : PoM) (h : PoIs N z m) (hN : N ≤ 700000) (n g : Int) : Spec Tryz.prog 12 [ptrH m.p, .agg #[.int .i64 n, .int .i64 g]] (poH z m) (fun x H' => ∃ (m' : PoM) (ob : Option Nat) (c : Nat) (tl : List Value), x = .tuple #[slV ob (z.closeL n g).length c, .int .i64 (getT z.T n g).2] ∧ Own ob (z.closeL n g).length c 1 (ivs (z.closeL n g)) tl ∧ H' = ⟨ob, cl (ivs (z.closeL n g) ++ tl) 3⟩ :: poH (z.close n g) m' ∧ m'.p = m.p ∧ PoIs (N + 130) (z.close n g) m') := by
 by_cases he : (getT z.T n g).2 = 0
 ·obtain ⟨hn1, hn2, _⟩ := getT_ok h.tb he
  have e8 : z.closeL n g = (z.cls n g).s.waiting (n, 0) ++ ((z.cls n g).all (n, 0) 3).s.waiting (n, 1) := if_pos he
  have e9 : z.close n g = ((z.cls n g).all (n, 0) 3).all (n, 1) 3 := if_pos he
  rw [e8, e9]
  have hdn := h.dn
  refine Spec.of (E := [(0, ptrH m.p), (1, .agg #[.int .i64 n, .int .i64 g])]) Tryz.func12 rfl (by kernel_rfl) Tryz.ntmps12 rfl rfl (fun w => ?_)
  refine WC_seq (WC_region ?_)
  refine WL_do rfl rfl rfl (D_box (cs := [_, _]) rfl rfl rfl) ?_
  rintro _ _ ⟨b1, rfl, rfl⟩
  refine WLa rfl (WLa rfl (WL_nil (WQ_code (WC_seq (WC_seq (WC_region (WLa rfl ?_)))))))
  refine WL_do rfl rfl rfl (D_call (po_zero z.R.length m) rfl rfl rfl rfl (pqC)) ?_
  rintro _ _ ⟨_, ⟨rfl, rfl⟩, rfl⟩
  refine WL_nil (WQ_code ?_)
  refine WC_F rfl ?_
  refine WC_skip (WQ_code (WC_seq (WC_seq ?_)))
  refine WC_draw ([⟨some b1, _⟩, ⟨some m.p, _⟩]) [(0, true), (1, true), (2, true), (3, true), (4, true), (5, false), (6, true), (7, true), (8, true), (9, true), (10, true)] followsMixed rfl rfl (by kernel_rfl) pqC ?_
  refine WMa rfl (WMa rfl ?_)
  refine WM_val rfl rfl rfl rfl (R_fieldAddr rfl fa92_0 rfl) ?_
  refine WM_val rfl rfl rfl rfl (R_load rfl sc87 rfl (mmC) rfl) ?_
  refine WM_val rfl rfl rfl rfl (R_loadA (vs := [_, _]) rfl ag30 rfl (mmC) rfl (atZ)) ?_
  refine WM_do rfl rfl rfl rfl (D_call (s_close m.tb h.tb (by omega) n g) rfl rfl rfl rfl (pqC)) ?_
  rintro _ _ ⟨_, ⟨rfl, rfl⟩, rfl⟩
  refine ⟨⟨_, pqC⟩, ?_⟩
  rw [he]
  refine WMa rfl (WMa rfl (WMa rfl (WMa rfl (WMa rfl (WM_nil (WQ_code (WC_seq (WC_region (WLa rfl ?_)))))))))
  refine WL_val rfl rfl rfl (R_neq rfl rfl rfl) ?_
  refine WL_nil (WQ_code ?_)
  refine WC_dF rfl (by simp) ?_
  refine WC_skip (WQ_code (WC_seq ?_))
  refine WC_draw ([⟨some b1, _⟩, ⟨some m.p, _⟩]) [(0, true), (1, true), (2, true), (3, true), (4, true), (5, true), (6, false)] followsMixed rfl rfl (by kernel_rfl) pqC ?_
  refine WMa rfl (WMa rfl ?_)
  refine WM_val rfl rfl rfl rfl (R_fieldAddr rfl fa92_1 rfl) ?_
  refine WM_val rfl rfl rfl rfl (R_load rfl sc88 rfl (mmC) rfl) ?_
  refine WM_val rfl rfl rfl rfl (R_fieldAddr rfl fa30_0 rfl) ?_
  refine WM_val rfl rfl rfl rfl (R_load rfl sc3 rfl (mmC) rfl) ?_
  refine WM_do rfl rfl rfl rfl (D_call (d_clear m.d h.di n hn1 hn2 (by omega)) rfl rfl rfl rfl (pqC)) ?_
  rintro _ _ ⟨_, ⟨d', rfl, rfl, hdp, hdd, hd'⟩, rfl⟩
  refine ⟨⟨_, pqC⟩, ?_⟩
  simp only [poE]
  rw [← hdp]
  have h2 : PoIs (N + 2) (z.cls n g) { m with d := d' } := (h.T_ (M := N + 2) (by omega) (h.tb.mono (by omega) |>.cls n g)).ends (Nat.le_refl _) hd' (by omega)
  refine WM_nil (WQ_code (WC_seq (WC_region (WLa rfl ?_))))
  refine WL_val rfl rfl rfl (R_fieldAddr rfl fa30_0 rfl) ?_
  refine WL_val rfl rfl rfl (R_load rfl sc3 rfl (mmC) rfl) ?_
  refine WL_val rfl rfl rfl (R_build rfl zv108 pl108 rfl rfl) ?_
  refine WL_do rfl rfl rfl (D_call (po_all { m with d := d' } h2 (by omega) (n, 0) 3) rfl rfl rfl rfl (pqC)) ?_
  rintro _ _ ⟨_, ⟨m2, o2, c2, tl2, rfl, own2, rfl, hm2, h3⟩, rfl⟩
  have pm2 : m2.p = m.p := hm2
  rw [← pm2]
  have hw1 : ((z.cls n g).s.waiting (n, 0)).length ≤ 64 := waiting_len h.pk.ps (n, 0)
  have hw2 : (((z.cls n g).all (n, 0) 3).s.waiting (n, 1)).length ≤ 64 := waiting_len h3.pk.ps (n, 1)
  refine WLa rfl (WL_nil (WQ_code (WC_seq (WC_region (WLa rfl (WLa rfl ?_))))))
  refine WL_val rfl rfl rfl (R_fieldAddr rfl fa30_0 rfl) ?_
  refine WL_val rfl rfl rfl (R_load rfl sc3 rfl (mmC) rfl) ?_
  refine WL_val rfl rfl rfl (R_build rfl zv108 pl108 rfl rfl) ?_
  refine WL_do rfl rfl rfl (D_call (po_all m2 h3 (by omega) (n, 1) 3) rfl rfl rfl rfl (pqC)) ?_
  rintro _ _ ⟨_, ⟨m4, o4, c4, tl4, rfl, own4, rfl, hm4, h5⟩, rfl⟩
  refine WL_do rfl rfl rfl (D_appendO rfl si34 rfl own2 plC rfl own4 mmC (ivs_1 _) (by omega) (by omega)) ?_
  rintro _ _ ⟨o5, c5, tl5, rfl, own5, rfl⟩
  rw [ivs_app, ← List.length_append] at own5
  rw [ivs_app, ← List.length_append]
  refine WLa rfl (WLa rfl (WL_nil (WQ_code (WC_ret ?_))))
  refine WQ_ret rfl rfl (.cons (.tmp rfl) (.cons (.tmp rfl) .nil)) rfl (by
    exact ⟨m4, o5, c5, tl5, by first | rfl | (rw [he]; rfl), own5, rfl, hm4, h5.mono (by omega)⟩) (pqC)
 ·have e8 : z.closeL n g = [] := if_neg he
  have e9 : z.close n g = z := if_neg he
  rw [e8, e9]
  refine Spec.of (E := [(0, ptrH m.p), (1, .agg #[.int .i64 n, .int .i64 g])]) Tryz.func12 rfl (by kernel_rfl) Tryz.ntmps12 rfl rfl (fun w => ?_)
  refine WC_seq (WC_region ?_)
  refine WL_do rfl rfl rfl (D_box (cs := [_, _]) rfl rfl rfl) ?_
  rintro _ _ ⟨b1, rfl, rfl⟩
  refine WLa rfl (WLa rfl (WL_nil (WQ_code (WC_seq (WC_seq (WC_region (WLa rfl ?_)))))))
  refine WL_do rfl rfl rfl (D_call (po_zero z.R.length m) rfl rfl rfl rfl (pqC)) ?_
  rintro _ _ ⟨_, ⟨rfl, rfl⟩, rfl⟩
  refine WL_nil (WQ_code ?_)
  refine WC_F rfl ?_
  refine WC_skip (WQ_code (WC_seq (WC_seq ?_)))
  refine WC_draw ([⟨some b1, _⟩, ⟨some m.p, _⟩]) [(0, true), (1, true), (2, true), (3, true), (4, true), (5, false), (6, true), (7, true), (8, true), (9, true), (10, true)] followsMixed rfl rfl (by kernel_rfl) pqC ?_
  refine WMa rfl (WMa rfl ?_)
  refine WM_val rfl rfl rfl rfl (R_fieldAddr rfl fa92_0 rfl) ?_
  refine WM_val rfl rfl rfl rfl (R_load rfl sc87 rfl (mmC) rfl) ?_
  refine WM_val rfl rfl rfl rfl (R_loadA (vs := [_, _]) rfl ag30 rfl (mmC) rfl (atZ)) ?_
  refine WM_do rfl rfl rfl rfl (D_call (s_close m.tb h.tb (by omega) n g) rfl rfl rfl rfl (pqC)) ?_
  rintro _ _ ⟨_, ⟨rfl, rfl⟩, rfl⟩
  refine ⟨⟨_, pqC⟩, ?_⟩
  have e7 : clsT z.T n g = z.T := clsT_no he
  rw [e7]
  refine WMa rfl (WMa rfl (WMa rfl (WMa rfl (WMa rfl (WM_nil (WQ_code (WC_seq (WC_region (WLa rfl ?_)))))))))
  refine WL_val rfl rfl rfl (R_neq rfl rfl rfl) ?_
  refine WL_nil (WQ_code ?_)
  refine WC_dT rfl (by exact he) ?_
  refine WC_seq (WC_region (WLa rfl (WLa rfl (WLa rfl (WL_nil (WQ_code (WC_ret ?_)))))))
  refine WQ_none 3 ?_
  refine WQ_ret rfl rfl (.cons (.tmp rfl) (.cons (.tmp rfl) .nil)) rfl (by
    exact ⟨m, none, 0, [], rfl, Own.empty 1, rfl, rfl, h.mono (by omega)⟩) (pqC)
theorem po_dead {N : Nat} {z : PoS} (m : PoM) (h : PoIs N z m) (hN : N ≤ 700000) (n g dir : Int) (k : Nat) (hk : k ≤ 18446744073709551615) : Spec Tryz.prog 17 [ptrH m.p, .agg #[.int .i64 n, .int .i64 g], .int .i64 dir, .int .u64 (k : Int)] (poH z m) (fun x H' => ∃ (m' : PoM) (ob : Option Nat) (c : Nat) (tl : List Value), x = .tuple #[slV ob (z.deadL n g dir k).length c, .int .i64 (z.spE n g dir)] ∧ Own ob (z.deadL n g dir k).length c 1 (ivs (z.deadL n g dir k)) tl ∧ H' = ⟨ob, cl (ivs (z.deadL n g dir k) ++ tl) 3⟩ :: poH (z.dead n g dir k) m' ∧ m'.p = m.p ∧ PoIs (N + 65) (z.dead n g dir k) m') := by
 by_cases he : z.spE n g dir = 0
 ·obtain ⟨hv, hsp⟩ := spE_vld h he
  have hdn := h.dn
  have e8 : z.deadL n g dir k = if k ≤ z.now then z.s.waiting (n, dir) else [] := if_pos he
  have e9 : z.dead n g dir k = if k ≤ z.now then { z with f := updF z.f (plS (n, dir)) k }.all (n, dir) 2 else { z with f := updF z.f (plS (n, dir)) k } := if_pos he
  rw [e8, e9]
  refine Spec.of (E := [(0, ptrH m.p), (1, .agg #[.int .i64 n, .int .i64 g]), (2, .int .i64 dir), (3, .int .u64 (k : Int))]) Tryz.func17 rfl (by kernel_rfl) Tryz.ntmps17 rfl rfl (fun w => ?_)
  refine WC_seq (WC_region ?_)
  refine WL_do rfl rfl rfl (D_box (cs := [_, _]) rfl rfl rfl) ?_
  rintro _ _ ⟨b1, rfl, rfl⟩
  refine WLa rfl (WLa rfl (WL_nil (WQ_code (WC_seq (WC_region (WLa rfl ?_))))))
  refine WL_val rfl rfl rfl (R_loadA (vs := [_, _]) rfl ag30 rfl (mmC) rfl (atZ)) ?_
  refine WLa rfl ?_
  refine WL_do rfl rfl rfl (D_call (po_spot m h (by omega) n g dir) rfl rfl rfl rfl (pqC)) ?_
  rintro _ _ ⟨_, ⟨rfl, rfl⟩, rfl⟩
  rw [he, hsp]
  refine WLa rfl (WLa rfl (WLa rfl ?_))
  refine WL_do rfl rfl rfl (D_alloc rfl zv108) ?_
  rintro _ _ ⟨b2, rfl, rfl⟩
  refine WL_do0 rfl rfl (D_store (vs := [_, _]) rfl Tryz.sizeOf108 rfl rfl rfl rfl rfl (plC) (Nat.le_of_ble_eq_true rfl)) ?_
  rintro _ _ rfl
  refine WLa rfl (WL_nil (WQ_code (WC_seq (WC_seq (WC_region (WLa rfl ?_))))))
  refine WL_val rfl rfl rfl (R_neq rfl rfl rfl) ?_
  refine WL_nil (WQ_code ?_)
  refine WC_dF rfl (by simp) ?_
  refine WC_skip (WQ_code (WC_seq (WC_seq ?_)))
  refine WC_draw ([⟨some b2, _⟩, ⟨some m.p, _⟩]) [(0, true), (1, true), (2, true), (3, true), (4, true), (5, true), (6, false), (7, true), (8, true), (9, true), (10, true), (11, true)] followsMixed rfl rfl (by kernel_rfl) pqC ?_
  refine WMa rfl (WMa rfl ?_)
  refine WM_val rfl rfl rfl rfl (R_fieldAddr rfl fa92_1 rfl) ?_
  refine WM_val rfl rfl rfl rfl (R_load rfl sc88 rfl (mmC) rfl) ?_
  refine WM_val rfl rfl rfl rfl (R_loadA (vs := [_, _]) rfl ag108 rfl (mmC) rfl (atZ)) ?_
  refine WMa rfl ?_
  refine WM_do rfl rfl rfl rfl (D_call (d_set m.d h.di (n, dir) hv k hk (by omega)) rfl rfl rfl rfl (pqC)) ?_
  rintro _ _ ⟨_, ⟨d', rfl, rfl, hdp, hdd, hd'⟩, rfl⟩
  refine ⟨⟨_, pqC⟩, ?_⟩
  simp only [poE]
  rw [← hdp]
  have h2 : PoIs (N + 1) { z with f := updF z.f (plS (n, dir)) k } { m with d := d' } := h.ends (Nat.le_succ N) hd' (by omega)
  refine WMa rfl (WMa rfl (WMa rfl (WMa rfl (WMa rfl (WM_nil (WQ_code (WC_seq (WC_region (WLa rfl ?_)))))))))
  refine WL_val rfl rfl rfl (R_notD rfl rfl) ?_
  refine WL_nil (WQ_code ?_)
  refine WC_dec rfl (fun c1 => ?_) (fun c1 => ?_)
  ·refine WC_none 3 ?_
   refine WC_seq (WC_region (WLa rfl (WLa rfl (WL_nil (WQ_code (WC_ret ?_))))))
   refine WQ_ret rfl rfl (.cons (.tmp rfl) (.cons (.tmp rfl) .nil)) rfl (by
     exact ⟨{ m with d := d' }, none, 0, [], by rw [if_neg (by assumption)]; first | rfl | (rw [he]; rfl), by rw [if_neg (by assumption)]; exact Own.empty 1, by rw [if_neg (by assumption), if_neg (by assumption)], rfl, by rw [if_neg (by assumption)]; exact h2.mono (by omega)⟩) (pqC)
  ·refine WC_skip (WQ_code (WC_seq (WC_region (WLa rfl ?_))))
   refine WL_val rfl rfl rfl (R_loadA (vs := [_, _]) rfl ag108 rfl (mmC) rfl (atZ)) ?_
   refine WL_do rfl rfl rfl (D_call (po_all { m with d := d' } h2 (by omega) (n, dir) 2) rfl rfl rfl rfl (pqC)) ?_
   rintro _ _ ⟨_, ⟨m2, o2, c2, tl2, rfl, own2, rfl, hm2, h3⟩, rfl⟩
   refine WLa rfl (WLa rfl (WL_nil (WQ_code (WC_ret ?_))))
   refine WQ_ret rfl rfl (.cons (.tmp rfl) (.cons (.tmp rfl) .nil)) rfl (by
     have hk2 : k ≤ z.now := Decidable.not_not.1 (by assumption)
     have hwl : (z.s.waiting (n, dir)).length ≤ 64 := waiting_len h.pk.ps (n, dir)
     rw [if_pos hk2, if_pos hk2]
     exact ⟨m2, o2, c2, tl2, by first | rfl | (rw [he]; rfl), own2, rfl, hm2, h3.mono (by (show N + 1 + (z.s.waiting (n, dir)).length ≤ _); omega)⟩) (pqC)
 ·have e8 : z.deadL n g dir k = [] := if_neg he
  have e9 : z.dead n g dir k = z := if_neg he
  rw [e8, e9]
  refine Spec.of (E := [(0, ptrH m.p), (1, .agg #[.int .i64 n, .int .i64 g]), (2, .int .i64 dir), (3, .int .u64 (k : Int))]) Tryz.func17 rfl (by kernel_rfl) Tryz.ntmps17 rfl rfl (fun w => ?_)
  refine WC_seq (WC_region ?_)
  refine WL_do rfl rfl rfl (D_box (cs := [_, _]) rfl rfl rfl) ?_
  rintro _ _ ⟨b1, rfl, rfl⟩
  refine WLa rfl (WLa rfl (WL_nil (WQ_code (WC_seq (WC_region (WLa rfl ?_))))))
  refine WL_val rfl rfl rfl (R_loadA (vs := [_, _]) rfl ag30 rfl (mmC) rfl (atZ)) ?_
  refine WLa rfl ?_
  refine WL_do rfl rfl rfl (D_call (po_spot m h (by omega) n g dir) rfl rfl rfl rfl (pqC)) ?_
  rintro _ _ ⟨_, ⟨rfl, rfl⟩, rfl⟩
  refine WLa rfl (WLa rfl (WLa rfl ?_))
  refine WL_do rfl rfl rfl (D_alloc rfl zv108) ?_
  rintro _ _ ⟨b2, rfl, rfl⟩
  refine WL_do0 rfl rfl (D_store (vs := [_, _]) rfl Tryz.sizeOf108 rfl rfl rfl rfl rfl (plC) (Nat.le_of_ble_eq_true rfl)) ?_
  rintro _ _ rfl
  refine WLa rfl (WL_nil (WQ_code (WC_seq (WC_seq (WC_region (WLa rfl ?_))))))
  refine WL_val rfl rfl rfl (R_neq rfl rfl rfl) ?_
  refine WL_nil (WQ_code ?_)
  refine WC_dT rfl (by exact he) ?_
  refine WC_seq (WC_region (WLa rfl (WLa rfl (WLa rfl (WL_nil (WQ_code (WC_ret ?_)))))))
  refine WQ_none 3 ?_
  refine WQ_ret rfl rfl (.cons (.tmp rfl) (.cons (.tmp rfl) .nil)) rfl (by
    exact ⟨m, none, 0, [], rfl, Own.empty 1, rfl, rfl, h.mono (by omega)⟩) (pqC)
theorem po_sigall {N : Nat} {z : PoS} (m : PoM) (h : PoIs N z m) (hN : N ≤ 700000) (n g dir : Int) : Spec Tryz.prog 25 [ptrH m.p, .agg #[.int .i64 n, .int .i64 g], .int .i64 dir] (poH z m) (fun x H' => ∃ (m' : PoM) (ob : Option Nat) (c : Nat) (tl : List Value), x = .tuple #[slV ob (z.sigL n g dir).length c, .int .i64 (z.spE n g dir)] ∧ Own ob (z.sigL n g dir).length c 1 (ivs (z.sigL n g dir)) tl ∧ H' = ⟨ob, cl (ivs (z.sigL n g dir) ++ tl) 3⟩ :: poH (z.sigAll n g dir) m' ∧ m'.p = m.p ∧ PoIs (N + 65) (z.sigAll n g dir) m') := by
 by_cases he : z.spE n g dir = 0
 ·obtain ⟨hv, hsp⟩ := spE_vld h he
  have e8 : z.sigL n g dir = z.s.waiting (n, dir) := if_pos he
  have e9 : z.sigAll n g dir = z.all (n, dir) 1 := if_pos he
  rw [e8, e9]
  refine Spec.of (E := [(0, ptrH m.p), (1, .agg #[.int .i64 n, .int .i64 g]), (2, .int .i64 dir)]) Tryz.func25 rfl (by kernel_rfl) Tryz.ntmps25 rfl rfl (fun w => ?_)
  refine WC_seq (WC_region ?_)
  refine WL_do rfl rfl rfl (D_box (cs := [_, _]) rfl rfl rfl) ?_
  rintro _ _ ⟨b1, rfl, rfl⟩
  refine WLa rfl (WLa rfl (WL_nil (WQ_code (WC_seq (WC_region (WLa rfl ?_))))))
  refine WL_val rfl rfl rfl (R_loadA (vs := [_, _]) rfl ag30 rfl (mmC) rfl (atZ)) ?_
  refine WLa rfl ?_
  refine WL_do rfl rfl rfl (D_call (po_spot m h (by omega) n g dir) rfl rfl rfl rfl (pqC)) ?_
  rintro _ _ ⟨_, ⟨rfl, rfl⟩, rfl⟩
  rw [he, hsp]
  refine WLa rfl (WLa rfl (WLa rfl ?_))
  refine WL_do rfl rfl rfl (D_alloc rfl zv108) ?_
  rintro _ _ ⟨b2, rfl, rfl⟩
  refine WL_do0 rfl rfl (D_store (vs := [_, _]) rfl Tryz.sizeOf108 rfl rfl rfl rfl rfl (plC) (Nat.le_of_ble_eq_true rfl)) ?_
  rintro _ _ rfl
  refine WLa rfl (WL_nil (WQ_code (WC_seq (WC_seq (WC_region (WLa rfl ?_))))))
  refine WL_val rfl rfl rfl (R_neq rfl rfl rfl) ?_
  refine WL_nil (WQ_code ?_)
  refine WC_dF rfl (by simp) ?_
  refine WC_skip (WQ_code (WC_seq (WC_region (WLa rfl ?_))))
  refine WL_val rfl rfl rfl (R_loadA (vs := [_, _]) rfl ag108 rfl (mmC) rfl (atZ)) ?_
  refine WL_do rfl rfl rfl (D_call (po_all m h (by omega) (n, dir) 1) rfl rfl rfl rfl (pqC)) ?_
  rintro _ _ ⟨_, ⟨m2, o2, c2, tl2, rfl, own2, rfl, hm2, h3⟩, rfl⟩
  refine WLa rfl (WLa rfl (WL_nil (WQ_code (WC_ret ?_))))
  refine WQ_ret rfl rfl (.cons (.tmp rfl) (.cons (.tmp rfl) .nil)) rfl (by
    have hwl : (z.s.waiting (n, dir)).length ≤ 64 := waiting_len h.pk.ps (n, dir)
    exact ⟨m2, o2, c2, tl2, by first | rfl | (rw [he]; rfl), own2, rfl, hm2, h3.mono (by omega)⟩) (pqC)
 ·have e8 : z.sigL n g dir = [] := if_neg he
  have e9 : z.sigAll n g dir = z := if_neg he
  rw [e8, e9]
  refine Spec.of (E := [(0, ptrH m.p), (1, .agg #[.int .i64 n, .int .i64 g]), (2, .int .i64 dir)]) Tryz.func25 rfl (by kernel_rfl) Tryz.ntmps25 rfl rfl (fun w => ?_)
  refine WC_seq (WC_region ?_)
  refine WL_do rfl rfl rfl (D_box (cs := [_, _]) rfl rfl rfl) ?_
  rintro _ _ ⟨b1, rfl, rfl⟩
  refine WLa rfl (WLa rfl (WL_nil (WQ_code (WC_seq (WC_region (WLa rfl ?_))))))
  refine WL_val rfl rfl rfl (R_loadA (vs := [_, _]) rfl ag30 rfl (mmC) rfl (atZ)) ?_
  refine WLa rfl ?_
  refine WL_do rfl rfl rfl (D_call (po_spot m h (by omega) n g dir) rfl rfl rfl rfl (pqC)) ?_
  rintro _ _ ⟨_, ⟨rfl, rfl⟩, rfl⟩
  refine WLa rfl (WLa rfl (WLa rfl ?_))
  refine WL_do rfl rfl rfl (D_alloc rfl zv108) ?_
  rintro _ _ ⟨b2, rfl, rfl⟩
  refine WL_do0 rfl rfl (D_store (vs := [_, _]) rfl Tryz.sizeOf108 rfl rfl rfl rfl rfl (plC) (Nat.le_of_ble_eq_true rfl)) ?_
  rintro _ _ rfl
  refine WLa rfl (WL_nil (WQ_code (WC_seq (WC_seq (WC_region (WLa rfl ?_))))))
  refine WL_val rfl rfl rfl (R_neq rfl rfl rfl) ?_
  refine WL_nil (WQ_code ?_)
  refine WC_dT rfl (by exact he) ?_
  refine WC_seq (WC_region (WLa rfl (WLa rfl (WLa rfl (WL_nil (WQ_code (WC_ret ?_)))))))
  refine WQ_none 3 ?_
  refine WQ_ret rfl rfl (.cons (.tmp rfl) (.cons (.tmp rfl) .nil)) rfl (by
    exact ⟨m, none, 0, [], rfl, Own.empty 1, rfl, rfl, h.mono (by omega)⟩) (pqC)
theorem po_sig {N : Nat} {z : PoS} (m : PoM) (h : PoIs N z m) (hN : N ≤ 700000) (n g dir : Int) : Spec Tryz.prog 24 [ptrH m.p, .agg #[.int .i64 n, .int .i64 g], .int .i64 dir] (poH z m) (fun x H' => ∃ m' : PoM, x = .tuple #[.int .i64 (z.sigR n g dir).1, .int .i64 (z.sigR n g dir).2] ∧ H' = poH (z.sig n g dir) m' ∧ m'.p = m.p ∧ PoIs (N + 1) (z.sig n g dir) m') := by
 by_cases he : z.spE n g dir = 0
 ·obtain ⟨hv, hsp⟩ := spE_vld h he
  have e8 : z.sigR n g dir = z.s.wakeR (n, dir) := if_pos he
  have e9 : z.sig n g dir = if (z.s.wakeR (n, dir)).2 = 0 then { z with s := z.s.wake (n, dir), R := z.R.set (z.s.wakeR (n, dir)).1.toNat 1 } else z := by unfold PoS.sig; rw [e8]
  rw [e8, e9]
  refine Spec.of (E := [(0, ptrH m.p), (1, .agg #[.int .i64 n, .int .i64 g]), (2, .int .i64 dir)]) Tryz.func24 rfl (by kernel_rfl) Tryz.ntmps24 rfl rfl (fun w => ?_)
  refine WC_seq (WC_region ?_)
  refine WL_do rfl rfl rfl (D_box (cs := [_, _]) rfl rfl rfl) ?_
  rintro _ _ ⟨b1, rfl, rfl⟩
  refine WLa rfl (WLa rfl (WL_nil (WQ_code (WC_seq (WC_region (WLa rfl ?_))))))
  refine WL_val rfl rfl rfl (R_loadA (vs := [_, _]) rfl ag30 rfl (mmC) rfl (atZ)) ?_
  refine WLa rfl ?_
  refine WL_do rfl rfl rfl (D_call (po_spot m h (by omega) n g dir) rfl rfl rfl rfl (pqC)) ?_
  rintro _ _ ⟨_, ⟨rfl, rfl⟩, rfl⟩
  rw [he, hsp]
  refine WLa rfl (WLa rfl (WLa rfl ?_))
  refine WL_do rfl rfl rfl (D_alloc rfl zv108) ?_
  rintro _ _ ⟨b2, rfl, rfl⟩
  refine WL_do0 rfl rfl (D_store (vs := [_, _]) rfl Tryz.sizeOf108 rfl rfl rfl rfl rfl (plC) (Nat.le_of_ble_eq_true rfl)) ?_
  rintro _ _ rfl
  refine WLa rfl (WL_nil (WQ_code (WC_seq (WC_seq (WC_region (WLa rfl ?_))))))
  refine WL_val rfl rfl rfl (R_neq rfl rfl rfl) ?_
  refine WL_nil (WQ_code ?_)
  refine WC_dF rfl (by simp) ?_
  refine WC_skip (WQ_code (WC_seq ?_))
  refine WC_draw ([⟨some b2, _⟩, ⟨some m.p, _⟩]) [(0, true), (1, true), (2, true), (3, true), (4, true), (5, false), (6, true), (7, true), (8, true), (9, true), (10, true)] followsMixed rfl rfl (by kernel_rfl) pqC ?_
  refine WMa rfl (WMa rfl ?_)
  refine WM_val rfl rfl rfl rfl (R_fieldAddr rfl fa92_2 rfl) ?_
  refine WM_val rfl rfl rfl rfl (R_load rfl sc89 rfl (mmC) rfl) ?_
  refine WM_val rfl rfl rfl rfl (R_loadA (vs := [_, _]) rfl ag108 rfl (mmC) rfl (atZ)) ?_
  refine WM_do rfl rfl rfl rfl (D_call (p_wake m.l h.pk (by omega) (n, dir)) rfl rfl rfl rfl (pqC)) ?_
  rintro _ _ ⟨_, ⟨l', rfl, rfl, hlp, hl'⟩, rfl⟩
  refine ⟨⟨_, pqC⟩, ?_⟩
  simp only [poE]
  rw [← hlp]
  refine WMa rfl (WMa rfl (WMa rfl (WMa rfl (WMa rfl (WM_nil (WQ_code (WC_seq (WC_seq (WC_region (WLa rfl ?_))))))))))
  refine WL_val rfl rfl rfl (R_eql rfl rfl rfl) ?_
  refine WL_nil (WQ_code ?_)
  refine WC_dec rfl (fun c1 => ?_) (fun c1 => ?_)
  ·obtain ⟨j, hj, hjl⟩ := wakeR_lt h.pk c1
   have hz0 : (z.s.wakeR (n, dir)).2 = 0 := c1
   have hjt : (z.s.wakeR (n, dir)).1.toNat = j := by omega
   obtain ⟨u9, hu9⟩ := exE (T := z.R) (i := j) (by rw [h.rl]; exact hjl)
   have hput : putAt (ivs z.R ++ m.rtl) (0 + (z.s.wakeR (n, dir)).1.toNat * 1) [.int .i64 1] = ivs (z.R.set (z.s.wakeR (n, dir)).1.toNat 1) ++ m.rtl := by rw [hjt]; exact fm_put0 encI1 (1 : Int) hu9 (j := 0) (vs := [.int .i64 1]) (by simp) rfl (tl := m.rtl)
   refine WC_region (WLa rfl (WLa rfl ?_))
   refine WL_val rfl rfl rfl (R_fieldAddr rfl fa92_3 rfl) ?_
   refine WL_val rfl rfl rfl (R_load rfl sc90 rfl (mmC) rfl) ?_
   refine WLa rfl ?_
   refine WL_val rfl rfl rfl (R_indexAddr rfl Tryz.underlying90 Tryz.sizeOf45 rfl rfl (by exact ⟨by omega, by rw [h.rl]; omega⟩)) ?_
   refine WL_do0 rfl rfl (D_store (vs := [_]) rfl Tryz.sizeOf45 rfl rfl rfl rfl rfl (plC) (by exact (show _ ≤ _ by rw [hjt]; exact fm_room0 encI1 (show j < z.R.length by rw [h.rl]; exact hjl) (j := 0) (by omega)))) ?_
   rintro _ _ rfl
   rw [hput]
   rw [show z.R.length = (z.R.set (z.s.wakeR (n, dir)).1.toNat 1).length from (List.length_set ..).symm]
   refine WL_nil (WQ_code (WC_seq (WC_region (WLa rfl (WLa rfl (WLa rfl (WLa rfl (WL_nil (WQ_code (WC_ret ?_))))))))))
   refine WQ_ret rfl rfl (.cons (.tmp rfl) (.cons (.tmp rfl) .nil)) rfl (by
     exact ⟨{ m with l := l' }, rfl, by rw [if_pos hz0], rfl, by rw [if_pos hz0]; exact h.lotR (Nat.le_succ N) hl' (wake_sm _ _) _ 1⟩) (pqC)
  ·have hz0 : ¬ (z.s.wakeR (n, dir)).2 = 0 := c1
   refine WC_skip (WQ_code (WC_seq (WC_region (WLa rfl (WLa rfl (WLa rfl (WLa rfl (WL_nil (WQ_code (WC_ret ?_))))))))))
   refine WQ_ret rfl rfl (.cons (.tmp rfl) (.cons (.tmp rfl) .nil)) rfl (by
     have h7 := h.lot (Nat.le_succ N) hl' (wake_sm _ _)
     have e7 : z.s.wake (n, dir) = z.s := by unfold PS.wake; rw [if_neg hz0]
     rw [e7] at h7
     exact ⟨{ m with l := l' }, rfl, by rw [if_neg hz0], rfl, by rw [if_neg hz0]; exact h7⟩) (pqC)
 ·have e8 : z.sigR n g dir = (0, z.spE n g dir) := if_neg he
  have e9 : z.sig n g dir = z := by unfold PoS.sig; rw [e8, if_neg he]
  rw [e8, e9]
  refine Spec.of (E := [(0, ptrH m.p), (1, .agg #[.int .i64 n, .int .i64 g]), (2, .int .i64 dir)]) Tryz.func24 rfl (by kernel_rfl) Tryz.ntmps24 rfl rfl (fun w => ?_)
  refine WC_seq (WC_region ?_)
  refine WL_do rfl rfl rfl (D_box (cs := [_, _]) rfl rfl rfl) ?_
  rintro _ _ ⟨b1, rfl, rfl⟩
  refine WLa rfl (WLa rfl (WL_nil (WQ_code (WC_seq (WC_region (WLa rfl ?_))))))
  refine WL_val rfl rfl rfl (R_loadA (vs := [_, _]) rfl ag30 rfl (mmC) rfl (atZ)) ?_
  refine WLa rfl ?_
  refine WL_do rfl rfl rfl (D_call (po_spot m h (by omega) n g dir) rfl rfl rfl rfl (pqC)) ?_
  rintro _ _ ⟨_, ⟨rfl, rfl⟩, rfl⟩
  refine WLa rfl (WLa rfl (WLa rfl ?_))
  refine WL_do rfl rfl rfl (D_alloc rfl zv108) ?_
  rintro _ _ ⟨b2, rfl, rfl⟩
  refine WL_do0 rfl rfl (D_store (vs := [_, _]) rfl Tryz.sizeOf108 rfl rfl rfl rfl rfl (plC) (Nat.le_of_ble_eq_true rfl)) ?_
  rintro _ _ rfl
  refine WLa rfl (WL_nil (WQ_code (WC_seq (WC_seq (WC_region (WLa rfl ?_))))))
  refine WL_val rfl rfl rfl (R_neq rfl rfl rfl) ?_
  refine WL_nil (WQ_code ?_)
  refine WC_dT rfl (by exact he) ?_
  refine WC_seq (WC_region (WLa rfl (WLa rfl (WLa rfl (WL_nil (WQ_code (WC_ret ?_)))))))
  refine WQ_ret rfl rfl (.cons (.tmp rfl) (.cons (.tmp rfl) .nil)) rfl (by
    exact ⟨m, rfl, rfl, rfl, h.mono (by omega)⟩) (pqC)
theorem po_wait {N : Nat} {z : PoS} (m : PoM) (h : PoIs N z m) (hN : N ≤ 700000) (i n g dir : Int) : Spec Tryz.prog 16 [ptrH m.p, .int .i64 i, .agg #[.int .i64 n, .int .i64 g], .int .i64 dir] (poH z m) (fun x H' => ∃ m' : PoM, x = .int .i64 (z.waitE i n g dir) ∧ H' = poH (z.wait i n g dir) m' ∧ m'.p = m.p ∧ PoIs (N + 1) (z.wait i n g dir) m') := by
 refine Spec.of (E := [(0, ptrH m.p), (1, .int .i64 i), (2, .agg #[.int .i64 n, .int .i64 g]), (3, .int .i64 dir)]) Tryz.func16 rfl (by kernel_rfl) Tryz.ntmps16 rfl rfl (fun w => ?_)
 refine WC_seq (WC_region ?_)
 refine WL_do rfl rfl rfl (D_box (cs := [_, _]) rfl rfl rfl) ?_
 rintro _ _ ⟨b1, rfl, rfl⟩
 refine WLa rfl (WL_nil (WQ_code (WC_seq (WC_region (WLa rfl (WLa rfl ?_))))))
 refine WL_do rfl rfl rfl (D_call (po_state m h (by omega) i) rfl rfl rfl rfl (pqC)) ?_
 rintro _ _ ⟨_, ⟨rfl, rfl⟩, rfl⟩
 refine WLa rfl (WLa rfl (WLa rfl (WLa rfl (WLa rfl (WL_nil (WQ_code (WC_seq (WC_seq (WC_region (WLa rfl ?_))))))))))
 refine WL_val rfl rfl rfl (R_neq rfl rfl rfl) ?_
 refine WL_nil (WQ_code ?_)
 refine WC_dec rfl (fun c1 => ?_) (fun c1 => ?_)
 ·have e9 : z.waitE i n g dir = (stR z.s.sm i).2 := if_pos c1
  have e8 : z.wait i n g dir = z := if_neg (by rw [e9]; exact c1)
  refine WC_seq (WC_region (WLa rfl (WLa rfl (WL_nil (WQ_code (WC_ret ?_))))))
  refine WQ_ret rfl rfl (.cons (.tmp rfl) .nil) rfl (by
    rw [e8, e9]
    exact ⟨m, rfl, rfl, rfl, h.mono (Nat.le_succ N)⟩) (pqC)
 ·have q1 : ¬ (stR z.s.sm i).2 ≠ 0 := c1
  refine WC_skip (WQ_code (WC_seq (WC_region (WLa rfl ?_))))
  refine WL_val rfl rfl rfl (R_loadA (vs := [_, _]) rfl ag30 rfl (mmC) rfl (atZ)) ?_
  refine WLa rfl ?_
  refine WL_do rfl rfl rfl (D_call (po_spot m h (by omega) n g dir) rfl rfl rfl rfl (pqC)) ?_
  rintro _ _ ⟨_, ⟨rfl, rfl⟩, rfl⟩
  refine WLa rfl (WLa rfl (WLa rfl ?_))
  refine WL_do rfl rfl rfl (D_alloc rfl zv108) ?_
  rintro _ _ ⟨b2, rfl, rfl⟩
  refine WL_do0 rfl rfl (D_store (vs := [_, _]) rfl Tryz.sizeOf108 rfl rfl rfl rfl rfl (plC) (Nat.le_of_ble_eq_true rfl)) ?_
  rintro _ _ rfl
  refine WLa rfl (WL_nil (WQ_code (WC_seq (WC_block (WC_seq (WC_region (WLa rfl ?_)))))))
  refine WL_val rfl rfl rfl (R_neq rfl rfl rfl) ?_
  refine WLa rfl (WL_nil (WQ_code ?_))
  refine WC_dec rfl (fun c2 => ?_) (fun c2 => ?_)
  ·have e9 : z.waitE i n g dir = z.spE n g dir := by unfold PoS.waitE; rw [if_neg q1, if_pos c2]
   have e8 : z.wait i n g dir = z := if_neg (by rw [e9]; exact c2)
   refine WC_seq (WC_region (WLa rfl (WLa rfl (WL_nil (WQ_code (WC_ret ?_))))))
   refine WQ_ret rfl rfl (.cons (.tmp rfl) .nil) rfl (by
     rw [e8, e9]
     exact ⟨m, rfl, rfl, rfl, h.mono (Nat.le_succ N)⟩) (pqC)
  ·have q2 : ¬ z.spE n g dir ≠ 0 := c2
   refine WC_seq (WC_region (WLa rfl ?_))
   refine WL_val rfl rfl rfl (R_neq rfl rfl rfl) ?_
   refine WLa rfl (WL_nil (WQ_code ?_))
   refine WC_dec rfl (fun c3 => ?_) (fun c3 => ?_)
   ·have e9 : z.waitE i n g dir = 8 := by unfold PoS.waitE; rw [if_neg q1, if_neg q2, if_pos c3]
    have e8 : z.wait i n g dir = z := if_neg (by rw [e9]; decide)
    refine WC_seq (WC_region (WLa rfl (WL_nil (WQ_code (WC_ret ?_)))))
    refine WQ_ret rfl rfl (.cons (.tmp rfl) .nil) rfl (by
      rw [e8, e9]
      exact ⟨m, rfl, rfl, rfl, h.mono (Nat.le_succ N)⟩) (pqC)
   ·have q3 : ¬ (stR z.s.sm i).1 ≠ 1 := c3
    refine WC_skip (WQ_code (WC_seq (WC_seq (WC_region (WLa rfl ?_)))))
    refine WL_val rfl rfl rfl (R_loadA (vs := [_, _]) rfl ag30 rfl (mmC) rfl (atZ)) ?_
    refine WLa rfl ?_
    refine WL_do rfl rfl rfl (D_call (po_chk m h (by omega) n g dir) rfl rfl rfl rfl (pqC)) ?_
    rintro _ _ ⟨_, ⟨rfl, rfl⟩, rfl⟩
    refine WLa rfl (WL_nil (WQ_code (WC_seq (WC_region (WLa rfl ?_)))))
    refine WL_val rfl rfl rfl (R_neq rfl rfl rfl) ?_
    refine WL_nil (WQ_code ?_)
    refine WC_dec rfl (fun c4 => ?_) (fun c4 => ?_)
    ·have e9 : z.waitE i n g dir = z.chk n g dir := by unfold PoS.waitE; rw [if_neg q1, if_neg q2, if_neg q3]
     have e8 : z.wait i n g dir = z := if_neg (by rw [e9]; exact c4)
     refine WC_seq (WC_region (WLa rfl (WLa rfl (WL_nil (WQ_code (WC_ret ?_))))))
     refine WQ_ret rfl rfl (.cons (.tmp rfl) .nil) rfl (by
       rw [e8, e9]
       exact ⟨m, rfl, rfl, rfl, h.mono (Nat.le_succ N)⟩) (pqC)
    ·have e9 : z.waitE i n g dir = 0 := by unfold PoS.waitE; rw [if_neg q1, if_neg q2, if_neg q3]; exact Decidable.not_not.1 c4
     have e8 : z.wait i n g dir = { z with s := z.s.park i (n, dir) } := if_pos e9
     obtain ⟨hv, hsp⟩ := spE_vld h (Decidable.not_not.1 q2)
     rw [hsp]
     have e7 : z.s.parkE i (n, dir) = 0 := by unfold PS.parkE; rw [if_neg q1, if_pos hv, if_pos (Decidable.not_not.1 q3)]
     refine WC_skip (WQ_code (WC_seq ?_))
     refine WC_draw ([⟨some b2, _⟩, ⟨some m.p, _⟩]) [(0, true), (1, true), (2, true), (3, true), (4, true), (5, true), (6, false), (7, true)] followsMixed rfl rfl (by kernel_rfl) pqC ?_
     refine WMa rfl (WMa rfl ?_)
     refine WM_val rfl rfl rfl rfl (R_fieldAddr rfl fa92_2 rfl) ?_
     refine WM_val rfl rfl rfl rfl (R_load rfl sc89 rfl (mmC) rfl) ?_
     refine WMa rfl ?_
     refine WM_val rfl rfl rfl rfl (R_loadA (vs := [_, _]) rfl ag108 rfl (mmC) rfl (atZ)) ?_
     refine WM_do rfl rfl rfl rfl (D_call (p_park m.l h.pk (by omega) i (n, dir)) rfl rfl rfl rfl (pqC)) ?_
     rintro _ _ ⟨_, ⟨l', rfl, rfl, hlp, hl'⟩, rfl⟩
     refine ⟨⟨_, pqC⟩, ?_⟩
     simp only [poE]
     rw [← hlp, e7]
     refine WMa rfl (WM_nil (WQ_code (WC_ret ?_)))
     refine WQ_ret rfl rfl (.cons (.tmp rfl) .nil) rfl (by
       rw [e8, e9]
       exact ⟨{ m with l := l' }, rfl, rfl, rfl, h.lot (Nat.le_succ N) hl' (park_sm _ _ _)⟩) (pqC)
end Go.Proofs.YtbkdebnkoidicaaGreat
end
section
set_option linter.unusedVariables false
set_option maxRecDepth 20000
set_option maxHeartbeats 4000000
namespace Go.Proofs.YtbkdebnkoidicaaGreat
theorem po_adv {N : Nat} {z : PoS} (m : PoM) (h : PoIs N z m) (hN : N ≤ 700000) (to : Nat) (hto : to ≤ 18446744073709551615) : Spec Tryz.prog 18 [ptrH m.p, .int .u64 (to : Int)] (poH z m)
  (fun x H' => ∃ (l : List Lp) (m' : PoM) (ob : Option Nat) (c : Nat) (tl : List Value), LapR11 z.f z.now to l ∧ l.length ≤ 1024 ∧ x = .tuple #[slV ob ((z.advS to).laps l).2.length c, .int .i64 (advE11 z.now to)] ∧ Own ob ((z.advS to).laps l).2.length c 1 (ivs ((z.advS to).laps l).2) tl ∧ H' = ⟨ob, cl (ivs ((z.advS to).laps l).2 ++ tl) 3⟩ :: poH ((z.advS to).laps l).1 m' ∧ m'.p = m.p ∧ PoIs (N + 64) ((z.advS to).laps l).1 m') := by
 have hW := h.pk.ps.few
 have hdn := h.dn
 refine Spec.of (E := [(0, ptrH m.p), (1, .int .u64 (to : Int))]) Tryz.func18 rfl (by kernel_rfl) Tryz.ntmps18 rfl rfl (fun w => ?_)
 refine WC_seq (WC_region (WLa rfl (WLa rfl (WL_nil (WQ_code (WC_seq (WC_seq (WC_region (WLa rfl ?_)))))))))
 refine WL_do rfl rfl rfl (D_call (po_zero z.R.length m) rfl rfl rfl rfl (pqC)) ?_
 rintro _ _ ⟨_, ⟨rfl, rfl⟩, rfl⟩
 refine WL_nil (WQ_code ?_)
 refine WC_F rfl ?_
 refine WC_skip (WQ_code (WC_seq (WC_region (WLa rfl (WLa rfl ?_)))))
 refine WL_val rfl rfl rfl (R_fieldAddr rfl fa92_1 rfl) ?_
 refine WL_val rfl rfl rfl (R_load rfl sc88 rfl (mmC) rfl) ?_
 refine WLa rfl ?_
 refine WL_do rfl rfl rfl (D_call (d_adv m.d h.di to hto) rfl rfl rfl rfl (pqC)) ?_
 rintro _ _ ⟨_, ⟨l, ob, c, tl, d', rfl, own, hlap, hll, rfl, hdp, hdd, hd'⟩, rfl⟩
 simp only [poE]
 rw [← hdp]
 have h2 : PoIs N (z.advS to) { m with d := d' } := h.ends (Nat.le_refl N) hd' (by omega)
 refine WLa rfl (WLa rfl (WLa rfl (WLa rfl (WLa rfl (WL_nil (WQ_code (WC_seq (WC_region (WLa rfl (WL_nil (WQ_code (WC_seq (WC_seq (WC_region (WLa rfl ?_)))))))))))))))
 refine WL_val rfl rfl rfl (R_len rfl Tryz.underlying72 rfl) ?_
 refine WLa rfl (WL_nil (WQ_code (WC_block ?_)))
 refine WC_none 3 ?_
 refine WC_loopF (G := AdW) [8, 10, 24, 25, 26, 27, 28, 29, 30, 31, 32, 33, 34] (fun y => y.k ≤ l.length ∧ y.z = ((z.advS to).laps (l.take y.k)).1 ∧ y.o = ((z.advS to).laps (l.take y.k)).2 ∧ PoIs y.n y.z y.m ∧ y.n + y.z.s.W.length ≤ N + 64 ∧ y.o.length + y.z.s.W.length ≤ 64 ∧ y.m.p = m.p ∧ Own y.ob y.o.length y.c 1 (ivs y.o) y.tl) (fun y => [(24, .int .i64 (y.k : Int)), (8, slV y.ob y.o.length y.c)]) (fun y => ⟨y.ob, cl (ivs y.o ++ y.tl) 3⟩ :: poH y.z y.m) (fun y => l.length - y.k) (⟨0, z.advS to, { m with d := d' }, N, [], none, 0, []⟩) (⟨Nat.zero_le _, by rw [List.take_zero]; rfl, by rw [List.take_zero]; rfl, h2, by (show N + z.s.W.length ≤ _); omega, by (show 0 + z.s.W.length ≤ _); omega, rfl, Own.empty 1⟩) leZ (pqC) ?_
 rintro y ⟨hyk, hyz, hyl, hyi, hyn, hyw, hyp, hyo⟩
 rw [← hyp]
 refine WC_seq (WC_region ?_)
 refine WL_val rfl rfl rfl (R_lss rfl rfl rfl) ?_
 refine WL_nil (WQ_code (WC_seq ?_))
 refine WC_dec rfl (fun c1 => ?_) (fun c1 => ?_)
 ·refine WC_skip (WQ_code (WC_seq (WC_block (WC_seq (WC_region ?_)))))
  obtain ⟨x, hx⟩ := exE (T := l) (i := y.k) (by omega)
  obtain ⟨wb, hwb⟩ := own.some_of (by omega)
  rw [hwb]
  have hwk := wakes_W hyi.pk.ps (x.fd, x.dir)
  refine WL_val rfl rfl rfl (R_indexAddrN rfl Tryz.underlying72 Tryz.sizeOf117 rfl rfl (by omega)) ?_
  refine WL_val rfl rfl rfl (R_loadA (vs := encLp x) rfl ag117 rfl (mmC) rfl (fm_at0 encLp3 hx (j := 0) (vs := encLp x) (fun j v h => by rw [Nat.zero_add]; exact h) (Nat.le_refl _))) ?_
  refine WL_do rfl rfl rfl (D_alloc rfl zv117) ?_
  rintro _ _ ⟨b1, rfl, rfl⟩
  refine WL_do0 rfl rfl (D_store (vs := [_, _, _]) rfl Tryz.sizeOf117 rfl rfl rfl rfl rfl (plC) (Nat.le_of_ble_eq_true rfl)) ?_
  rintro _ _ rfl
  refine WL_nil (WQ_code (WC_region (WLa rfl (WLa rfl ?_))))
  refine WL_val rfl rfl rfl (R_fieldAddr rfl fa117_0 rfl) ?_
  refine WL_val rfl rfl rfl (R_loadA (vs := [_, _]) rfl ag108 rfl (mmC) rfl (atZ)) ?_
  refine WL_do rfl rfl rfl (D_call (po_all y.m hyi (by omega) (x.fd, x.dir) 2) rfl rfl rfl rfl (pqC)) ?_
  rintro _ _ ⟨_, ⟨m2, o2, c2, tl2, rfl, own2, rfl, hm2, h3⟩, rfl⟩
  have pm2 : m2.p = y.m.p := hm2
  refine WL_do rfl rfl rfl (D_appendO rfl si34 rfl hyo plC rfl own2 mmC (ivs_1 _) (by omega) (by omega)) ?_
  rintro _ _ ⟨o5, c5, tl5, rfl, own5, rfl⟩
  rw [ivs_app, ← List.length_append] at own5
  rw [ivs_app, ← List.length_append]
  refine WLa rfl (WL_nil (WQ_code (WC_region ?_)))
  refine WL_val rfl rfl rfl (R_add rfl rfl rfl (by omega)) ?_
  refine WLa rfl (WL_nil ?_)
  rw [← pm2]
  refine WQ_nextF (gg := y) (⟨y.k + 1, y.z.all (x.fd, x.dir) 2, m2, y.n + (y.z.s.waiting (x.fd, x.dir)).length, y.o ++ y.z.s.waiting (x.fd, x.dir), o5, c5, tl5⟩) (⟨by dsimp only; omega, by dsimp only; rw [tk_next hx, laps_snoc, ← hyz], by dsimp only; rw [tk_next hx, laps_snoc, ← hyz, ← hyl], h3, by (show y.n + _ + (y.z.s.wakeAll (x.fd, x.dir)).W.length ≤ _); omega, by (show (y.o ++ _).length + (y.z.s.wakeAll (x.fd, x.dir)).W.length ≤ _); rw [List.length_append]; omega, rfl, own5⟩) (by dsimp only; omega) leZ (psZ) rfl (pqC)
 ·have hkl : y.k = l.length := by omega
  have hzf : y.z = ((z.advS to).laps l).1 := by rw [hyz, hkl, List.take_length]
  have hof : y.o = ((z.advS to).laps l).2 := by rw [hyl, hkl, List.take_length]
  refine WC_exit (WQ_code (WC_seq (WC_region (WLa rfl (WLa rfl (WLa rfl (WLa rfl (WL_nil (WQ_code (WC_ret ?_))))))))))
  refine WQ_ret rfl rfl (.cons (.tmp rfl) (.cons (.tmp rfl) .nil)) rfl (by
    exact ⟨l, y.m, y.ob, y.c, y.tl, hlap, hll, by rw [← hof]; rfl, by rw [← hof]; exact hyo, by rw [← hzf, ← hof], rfl, by rw [← hzf]; exact hyi.mono (by omega)⟩) (pqC)
theorem reas_clone (rb rc : Nat) (R : List Int) (rtl : List Value) (h1 : 1 ≤ R.length) (h2 : R.length ≤ 64) : Spec Tryz.prog 83 [.slice (some ⟨rb, 0, none⟩) R.length rc] [⟨some rb, cl (ivs R ++ rtl) 45⟩]
  (fun x H' => ∃ b c' tl', x = .slice (some ⟨b, 0, none⟩) R.length c' ∧ Own (some b) R.length c' 1 (ivs R) tl' ∧ H' = [⟨some b, cl (ivs R ++ tl') 45⟩, ⟨some rb, cl (ivs R ++ rtl) 45⟩]) := by
 refine Spec.of (E := [(0, .slice (some ⟨rb, 0, none⟩) R.length rc)]) Tryz.func83 rfl (by kernel_rfl) Tryz.ntmps83 rfl rfl (fun w => ?_)
 refine WC_seq (WC_region (WLa rfl (WL_nil (WQ_code (WC_seq (WC_seq (WC_region (WLa rfl ?_))))))))
 refine WL_val rfl rfl rfl (R_sliceEqNil rfl Tryz.underlying90 rfl) ?_
 refine WL_nil (WQ_code ?_)
 refine WC_F rfl ?_
 refine WC_skip (WQ_code (WC_seq (WC_region ?_)))
 refine WL_do rfl rfl rfl (D_buildSlice rfl si90 rfl rfl rfl) ?_
 rintro _ _ ⟨b1, rfl, rfl⟩
 refine WLa rfl ?_
 refine WL_do rfl rfl rfl (D_append rfl si90 rfl ((⟨by simp, by simp, by simp, by simp, fun h => by cases h⟩ : Own (some b1) 0 0 1 [] [])) (plC) rfl (mmC) ((fun j v hj => by rw [Nat.zero_add, List.getElem?_append_left (List.getElem?_eq_some_iff.1 hj).1]; exact hj : At (ivs R ++ rtl) 0 (ivs R))) ((by rw [fm_length encI1])) (ivs_1 R) (by omega) (by omega)) ?_
 rintro _ _ ⟨ob2, cap2, tl2, rfl, own2, rfl⟩
 obtain ⟨b9, rfl⟩ := own2.some_of (by omega)
 rw [show 0 + R.length = R.length from by omega, List.nil_append] at own2
 rw [show 0 + R.length = R.length from by omega, List.nil_append]
 refine WLa rfl (WL_nil (WQ_code (WC_ret ?_)))
 refine WQ_ret rfl rfl (.cons (.tmp rfl) .nil) rfl (by
   exact ⟨b9, cap2, tl2, rfl, own2, rfl⟩) (pqC)
theorem po_copy {N : Nat} {z : PoS} (m : PoM) (h : PoIs N z m) (hN : N ≤ 700000) : Spec Tryz.prog 37 [ptrH m.p] (poH z m) (fun x H' => ∃ m2 : PoM, x = ptrH m2.p ∧ H' = poH z m2 ++ poH z m ∧ PoIs N z m2) := by
 have hrl := h.rl
 have hpos := h.pos
 have h64 := h.rl64
 refine Spec.of (E := [(0, ptrH m.p)]) Tryz.func37 rfl (by kernel_rfl) Tryz.ntmps37 rfl rfl (fun w => ?_)
 refine WC_seq (WC_region (WLa rfl (WL_nil (WQ_code (WC_seq (WC_seq (WC_region (WLa rfl ?_))))))))
 refine WL_do rfl rfl rfl (D_call (po_zero z.R.length m) rfl rfl rfl rfl (pqC)) ?_
 rintro _ _ ⟨_, ⟨rfl, rfl⟩, rfl⟩
 refine WL_nil (WQ_code ?_)
 refine WC_F rfl ?_
 refine WC_skip (WQ_code (WC_seq ?_))
 refine WC_draw ([⟨some m.p, _⟩]) [(0, true), (1, true), (2, true), (3, true), (5, true), (6, true), (7, true), (8, true), (10, true), (11, true), (12, true), (13, true), (15, true), (16, true), (17, true), (18, true), (4, false), (9, false), (14, false), (19, false), (20, true), (21, false), (22, true)] followsMixed rfl rfl (by kernel_rfl) pqC ?_
 refine WMa rfl (WMa rfl ?_)
 refine WM_val rfl rfl rfl rfl (R_fieldAddr rfl fa92_0 rfl) ?_
 refine WM_val rfl rfl rfl rfl (R_load rfl sc87 rfl (mmC) rfl) ?_
 refine WMa rfl (WMa rfl ?_)
 refine WM_val rfl rfl rfl rfl (R_fieldAddr rfl fa92_1 rfl) ?_
 refine WM_val rfl rfl rfl rfl (R_load rfl sc88 rfl (mmC) rfl) ?_
 refine WMa rfl (WMa rfl ?_)
 refine WM_val rfl rfl rfl rfl (R_fieldAddr rfl fa92_2 rfl) ?_
 refine WM_val rfl rfl rfl rfl (R_load rfl sc89 rfl (mmC) rfl) ?_
 refine WMa rfl (WMa rfl ?_)
 refine WM_val rfl rfl rfl rfl (R_fieldAddr rfl fa92_3 rfl) ?_
 refine WM_val rfl rfl rfl rfl (R_load rfl sc90 rfl (mmC) rfl) ?_
 refine WM_do rfl rfl rfl rfl (D_call (s_copy m.tb h.tb (by omega)) rfl rfl rfl rfl (pqC)) ?_
 rintro _ _ ⟨_, ⟨tb2, rfl, rfl⟩, rfl⟩
 refine ⟨⟨_, pqC⟩, ?_⟩
 refine WM_do rfl rfl rfl rfl (D_call (d_copy m.d h.di) rfl rfl rfl rfl (pqC)) ?_
 rintro _ _ ⟨_, ⟨d2, rfl, rfl, hdn2, hd2⟩, rfl⟩
 refine ⟨⟨_, pqC⟩, ?_⟩
 refine WM_do rfl rfl rfl rfl (D_call (p_copy m.l h.pk) rfl rfl rfl rfl (pqC)) ?_
 rintro _ _ ⟨_, ⟨l2, rfl, rfl, hl2⟩, rfl⟩
 refine ⟨⟨_, pqC⟩, ?_⟩
 refine WM_do rfl rfl rfl rfl (D_call (reas_clone m.rb m.rc z.R m.rtl (by omega) (by omega)) rfl rfl rfl rfl (pqC)) ?_
 rintro _ _ ⟨_, ⟨rb2, rc2, rtl2, rfl, own2, rfl⟩, rfl⟩
 refine ⟨⟨_, pqC⟩, ?_⟩
 refine WM_val rfl rfl rfl rfl (R_build rfl zv92 pl92 rfl rfl) ?_
 refine WM_do rfl rfl rfl rfl (D_box (cs := [_, _, _, _]) rfl rfl rfl) ?_
 rintro _ _ ⟨b1, rfl, rfl⟩
 refine ⟨⟨_, pqC⟩, ?_⟩
 refine WMa rfl (WM_nil (WQ_code (WC_ret ?_)))
 refine WQ_ret rfl rfl (.cons (.tmp rfl) .nil) rfl (by
   exact ⟨⟨b1, tb2, d2, l2, rb2, rc2, rtl2⟩, rfl, rfl, ⟨h.tb, hd2, by rw [hdn2]; exact h.dn, hl2, h.rl, h.pos, own2⟩⟩) (pqC)
end Go.Proofs.YtbkdebnkoidicaaGreat
end
section
set_option linter.unusedVariables false
set_option maxRecDepth 20000
set_option maxHeartbeats 2000000
namespace Go.Proofs.YtbkdebnkoidicaaGreat
theorem lfd_ok (n g : Int) : Spec Tryz.prog 11 [.int .i64 n, .int .i64 g] [] (fun x H' => x = .agg #[.int .i64 n, .int .i64 g] ∧ H' = []) := by
 refine Spec.of (E := [(0, .int .i64 n), (1, .int .i64 g)]) Tryz.func11 rfl (by kernel_rfl) Tryz.ntmps11 rfl rfl (fun w => ?_)
 refine WC_seq (WC_region ?_)
 refine WL_do rfl rfl rfl (D_alloc rfl zv30) ?_
 rintro _ _ ⟨b1, rfl, rfl⟩
 refine WL_nil (WQ_code (WC_seq (WC_region (WLa rfl (WLa rfl ?_)))))
 refine WL_val rfl rfl rfl (R_build rfl zv30 pl30 rfl rfl) ?_
 refine WL_do0 rfl rfl (D_store (vs := [_, _]) rfl Tryz.sizeOf30 rfl rfl rfl rfl rfl (plC) (Nat.le_of_ble_eq_true rfl)) ?_
 rintro _ _ rfl
 refine WL_nil (WQ_code (WC_ret ?_))
 refine WQ_ret rfl rfl (.cons (.cell (vs := [_, _]) rfl ag30 (mmC) rfl (atZ)) .nil) rfl (by
   exact ⟨rfl, rfl⟩) (pqC)
theorem opens_ok {N : Nat} {z : PoS} (m : PoM) (h : PoIs N z m) (hN : N ≤ 700000) (v wn wg : Int) (hw : opnR z.T = ((wn, wg), 0)) : Spec Tryz.prog 14 [ptrH m.p, .int .i64 v, .agg #[.int .i64 wn, .int .i64 wg]] (poH z m) (fun x H' => x = .bool true ∧ H' = poH (z.openE v) m ∧ PoIs (N + 1) (z.openE v) m) := by
 refine Spec.of (E := [(0, ptrH m.p), (1, .int .i64 v), (2, .agg #[.int .i64 wn, .int .i64 wg])]) Tryz.func14 rfl (by kernel_rfl) Tryz.ntmps14 rfl rfl (fun w => ?_)
 refine WC_seq (WC_region ?_)
 refine WL_do rfl rfl rfl (D_box (cs := [_, _]) rfl rfl rfl) ?_
 rintro _ _ ⟨b1, rfl, rfl⟩
 refine WLa rfl (WL_nil (WQ_code (WC_seq (WC_region (WLa rfl (WLa rfl ?_))))))
 refine WL_do rfl rfl rfl (D_call (po_open m h (by omega) v) rfl rfl rfl rfl (pqC)) ?_
 rintro _ _ ⟨_, ⟨rfl, rfl, h2⟩, rfl⟩
 rw [hw]
 refine WLa rfl (WLa rfl (WLa rfl ?_))
 refine WL_do rfl rfl rfl (D_alloc rfl zv30) ?_
 rintro _ _ ⟨b2, rfl, rfl⟩
 refine WL_do0 rfl rfl (D_store (vs := [_, _]) rfl Tryz.sizeOf30 rfl rfl rfl rfl rfl (plC) (Nat.le_of_ble_eq_true rfl)) ?_
 rintro _ _ rfl
 refine WLa rfl (WL_nil (WQ_code (WC_seq (WC_region ?_))))
 refine WL_val rfl rfl rfl (R_loadA (vs := [_, _]) rfl ag30 rfl (mmC) rfl (atZ)) ?_
 refine WL_val rfl rfl rfl (R_loadA (vs := [_, _]) rfl ag30 rfl (mmC) rfl (atZ)) ?_
 refine WL_val rfl rfl rfl (R_seq30 rfl rfl rfl rfl) ?_
 refine WL_set (s := 17) (v := .bool true) rfl (by simp) ?_
 refine WLa rfl (WLa rfl ?_)
 refine WL_val rfl rfl rfl (R_eql rfl rfl rfl) ?_
 refine WL_set (s := 20) (v := .bool true) rfl (by simp) ?_
 refine WLa rfl (WLa rfl (WL_nil (WQ_code (WC_ret ?_))))
 refine WQ_ret rfl rfl (.cons (.tmp rfl) .nil) rfl (by
   exact ⟨rfl, rfl, h2⟩) (pqC)
theorem reason_ok {N : Nat} {z : PoS} (m : PoM) (h : PoIs N z m) (hN : N ≤ 700000) (i want : Int) (hw : z.rsn i = (want, 0)) : Spec Tryz.prog 19 [ptrH m.p, .int .i64 i, .int .i64 want] (poH z m) (fun x H' => x = .bool true ∧ H' = poH z m) := by
 refine Spec.of (E := [(0, ptrH m.p), (1, .int .i64 i), (2, .int .i64 want)]) Tryz.func19 rfl (by kernel_rfl) Tryz.ntmps19 rfl rfl (fun w => ?_)
 refine WC_seq (WC_region (WLa rfl (WL_nil (WQ_code (WC_seq (WC_region (WLa rfl (WLa rfl ?_))))))))
 refine WL_do rfl rfl rfl (D_call (po_rsn m h (by omega) i) rfl rfl rfl rfl (pqC)) ?_
 rintro _ _ ⟨_, ⟨rfl, rfl⟩, rfl⟩
 rw [hw]
 refine WLa rfl (WLa rfl (WLa rfl (WLa rfl (WLa rfl (WL_nil (WQ_code (WC_seq (WC_region (WLa rfl (WLa rfl ?_))))))))))
 refine WL_val rfl rfl rfl (R_eql rfl rfl rfl) ?_
 refine WL_set (s := 17) (v := .bool true) rfl (by simp) ?_
 refine WLa rfl (WLa rfl ?_)
 refine WL_val rfl rfl rfl (R_eql rfl rfl rfl) ?_
 refine WL_set (s := 20) (v := .bool true) rfl (by simp) ?_
 refine WLa rfl (WLa rfl (WL_nil (WQ_code (WC_ret ?_))))
 refine WQ_ret rfl rfl (.cons (.tmp rfl) .nil) rfl (by
   exact ⟨rfl, rfl⟩) (pqC)
theorem woke_ok (l : List Int) (hl : l.length ≤ 1000000) (o1 : Option Nat) (c1 : Nat) (t1 : List Value) (o2 : Option Nat) (c2 : Nat) (t2 : List Value) (h1 : Own o1 l.length c1 1 (ivs l) t1) (h2 : Own o2 l.length c2 1 (ivs l) t2) :
  Spec Tryz.prog 13 [slV o1 l.length c1, .int .i64 0, slV o2 l.length c2] [⟨o1, cl (ivs l ++ t1) 3⟩, ⟨o2, cl (ivs l ++ t2) 3⟩] (fun r H' => r = .bool true ∧ H' = [⟨o1, cl (ivs l ++ t1) 3⟩, ⟨o2, cl (ivs l ++ t2) 3⟩]) := by
 refine Spec.of (E := [(0, slV o1 l.length c1), (1, .int .i64 0), (2, slV o2 l.length c2)]) Tryz.func13 rfl (by kernel_rfl) Tryz.ntmps13 rfl rfl (fun w => ?_)
 refine WC_seq (WC_region (WLa rfl (WL_nil (WQ_code (WC_seq (WC_region (WLa rfl (WLa rfl ?_))))))))
 refine WL_do rfl rfl rfl (D_call (same_ok l hl o1 c1 t1 o2 c2 t2 h1 h2) rfl rfl rfl rfl (pqC)) ?_
 rintro _ _ ⟨_, ⟨rfl, rfl⟩, rfl⟩
 refine WLa rfl (WLa rfl ?_)
 refine WL_val rfl rfl rfl (R_eql rfl rfl rfl) ?_
 refine WL_set (s := 12) (v := .bool true) rfl (by simp) ?_
 refine WLa rfl (WLa rfl (WL_nil (WQ_code (WC_ret ?_))))
 refine WQ_ret rfl rfl (.cons (.tmp rfl) .nil) rfl (by
   exact ⟨rfl, rfl⟩) (pqC)
theorem woke_none (o1 : Option Nat) (c1 : Nat) (t1 : List Value) (h1 : Own o1 ([] : List Int).length c1 1 (ivs []) t1) : Spec Tryz.prog 13 [slV o1 ([] : List Int).length c1, .int .i64 0, .slice none 0 0] [⟨o1, cl (ivs [] ++ t1) 3⟩, ⟨none, cl [] 3⟩] (fun r H' => r = .bool true ∧ H' = [⟨o1, cl (ivs [] ++ t1) 3⟩, ⟨none, cl [] 3⟩]) :=
 woke_ok [] (by decide) o1 c1 t1 none 0 [] h1 (Own.empty 1)
end Go.Proofs.YtbkdebnkoidicaaGreat
end
section
set_option linter.unusedVariables false
set_option maxRecDepth 20000
set_option maxHeartbeats 4000000
namespace Go.Proofs.YtbkdebnkoidicaaGreat
theorem WL_noneC {X : Ctx} {p : Post} {E : Env} {H : Heap} {ops : Array Oper} {l : List Oper} (e : TypeId) (k : WL X ops p l E (⟨none, cl [] e⟩ :: H)) : WL X ops p l E H := fun a w ha hw => k a w ha (hw.addNone e)
section
variable {N : Nat} {z : PoS} (m : PoM) (h : PoIs N z m) (hN : N ≤ 700000)
include h hN
theorem dead_run (n g dir : Int) (k : Nat) (hk : k ≤ 18446744073709551615) (L : List Int) (hL : z.deadL n g dir k = L) (he : z.spE n g dir = 0) : Spec Tryz.prog 17 [ptrH m.p, .agg #[.int .i64 n, .int .i64 g], .int .i64 dir, .int .u64 (k : Int)] (poH z m) (fun x H' => ∃ (m' : PoM) (ob : Option Nat) (c : Nat) (tl : List Value), x = .tuple #[slV ob L.length c, .int .i64 0] ∧ Own ob L.length c 1 (ivs L) tl ∧ H' = ⟨ob, cl (ivs L ++ tl) 3⟩ :: poH (z.dead n g dir k) m' ∧ m'.p = m.p ∧ PoIs (N + 65) (z.dead n g dir k) m') := by
 subst hL
 have := po_dead m h hN n g dir k hk
 rw [he] at this
 exact this
theorem close_run (n g : Int) (L : List Int) (hL : z.closeL n g = L) (he : (getT z.T n g).2 = 0) : Spec Tryz.prog 12 [ptrH m.p, .agg #[.int .i64 n, .int .i64 g]] (poH z m) (fun x H' => ∃ (m' : PoM) (ob : Option Nat) (c : Nat) (tl : List Value), x = .tuple #[slV ob L.length c, .int .i64 0] ∧ Own ob L.length c 1 (ivs L) tl ∧ H' = ⟨ob, cl (ivs L ++ tl) 3⟩ :: poH (z.close n g) m' ∧ m'.p = m.p ∧ PoIs (N + 130) (z.close n g) m') := by
 subst hL
 have := po_close m h hN n g
 rw [he] at this
 exact this
theorem adv_run (to : Nat) (hto : to ≤ 18446744073709551615) (l0 : List Lp) (hl0 : LapR11 z.f z.now to l0) (hE : advE11 z.now to = 0) (L : List Int) (hL : ((z.advS to).laps l0).2 = L) : Spec Tryz.prog 18 [ptrH m.p, .int .u64 (to : Int)] (poH z m)
  (fun x H' => ∃ (m' : PoM) (ob : Option Nat) (c : Nat) (tl : List Value), x = .tuple #[slV ob L.length c, .int .i64 0] ∧ Own ob L.length c 1 (ivs L) tl ∧ H' = ⟨ob, cl (ivs L ++ tl) 3⟩ :: poH ((z.advS to).laps l0).1 m' ∧ m'.p = m.p ∧ PoIs (N + 64) ((z.advS to).laps l0).1 m') := by
 subst hL
 refine (po_adv m h hN to hto).mono fun x H' ⟨l, m', ob, c, tl, h1, h2, h3, h4, h5, h6, h7⟩ => ?_
 obtain rfl := h1.one hl0
 rw [hE] at h3
 exact ⟨m', ob, c, tl, h3, h4, h5, h6, h7⟩
end
theorem start_f (z : PoS) (i : Int) : (z.start i).f = z.f := by unfold PoS.start; split <;> rfl
theorem wait_f (z : PoS) (i n g dir : Int) : (z.wait i n g dir).f = z.f := by unfold PoS.wait; split <;> rfl
theorem sig_f (z : PoS) (n g dir : Int) : (z.sig n g dir).f = z.f := by unfold PoS.sig; split <;> rfl
theorem dead_later {z : PoS} {n g dir : Int} {k : Nat} (he : z.spE n g dir = 0) (hk : ¬ k ≤ z.now) : z.dead n g dir k = { z with f := updF z.f (plS (n, dir)) k } := by unfold PoS.dead; rw [if_pos he, if_neg hk]
def kz0 : PoS := newS 3 10
def kz1 : PoS := kz0.openE 7
def kz2 : PoS := kz1.start 0
def kz3 : PoS := kz2.start 1
def kz4 : PoS := kz3.start 2
def kz5 : PoS := kz4.wait 0 0 0 0
def kz6 : PoS := kz5.wait 1 0 0 1
def kz7 : PoS := kz6.wait 2 0 0 0
def kz8 : PoS := kz7.dead 0 0 0 15
def kz9 : PoS := ((kz8.advS 14).laps []).1
def kz10 : PoS := kz9.sig 0 0 0
def kz11 : PoS := ((kz10.advS 15).laps [⟨0, 0, 15⟩]).1
def kz12 : PoS := kz11.close 0 0
def kz13 : PoS := kz12.openE 8
theorem kf0 : opnR kz0.T = ((0, 0), 0) := by decide +kernel
theorem kf1 : (stepR kz1.s.sm kz1.s.qm 0 1 0).1 = 0 := by decide +kernel
theorem kf2 : (stepR kz2.s.sm kz2.s.qm 0 1 1).1 = 0 := by decide +kernel
theorem kf3 : (stepR kz3.s.sm kz3.s.qm 0 1 2).1 = 0 := by decide +kernel
theorem kf4 : kz4.waitE 0 0 0 0 = 0 := by decide +kernel
theorem kf5 : kz5.waitE 1 0 0 1 = 0 := by decide +kernel
theorem kf6 : kz6.waitE 2 0 0 0 = 0 := by decide +kernel
theorem kf7 : kz7.deadL 0 0 0 15 = [] ∧ kz7.spE 0 0 0 = 0 ∧ ¬ 15 ≤ kz7.now := by decide +kernel
theorem kf8 : kz8.now = 10 ∧ kz9.now = 14 ∧ kz10.now = 14 ∧ advE11 kz8.now 14 = 0 ∧ advE11 kz10.now 15 = 0 := by decide +kernel
theorem kf9 : kz9.sigR 0 0 0 = (0, 0) ∧ kz10.rsn 0 = (1, 0) := by decide +kernel
theorem kf10 : ((kz10.advS 15).laps [⟨0, 0, 15⟩]).2 = [2] ∧ kz11.rsn 2 = (2, 0) ∧ kz11.chk 0 0 0 = 12 := by decide +kernel
theorem kf11 : kz11.closeL 0 0 = [1] ∧ (getT kz11.T 0 0).2 = 0 := by decide +kernel
theorem kf12 : kz12.rsn 1 = (3, 0) ∧ kz12.chk 0 0 0 = 9 ∧ opnR kz12.T = ((0, 1), 0) := by decide +kernel
theorem kf13 : kz13.chk 0 1 0 = 0 ∧ (kz13.whr 1).2 = 8 := by decide +kernel
theorem kff : kz7.f = fun _ => 18446744073709551615 := by
 unfold kz7 kz6 kz5 kz4 kz3 kz2 kz1 kz0
 rw [wait_f, wait_f, wait_f, start_f, start_f, start_f]; rfl
theorem kf8f : kz8.f = updF (fun _ => 18446744073709551615) 0 15 := by
 unfold kz8
 rw [dead_later kf7.2.1 kf7.2.2, kff]; rfl
theorem kf10f : kz10.f = updF (fun _ => 18446744073709551615) 0 15 := by
 unfold kz10
 rw [sig_f]; exact kf8f
theorem lap11_none : IsLap (updF (fun _ => 18446744073709551615) 0 15) 10 14 [] := by
 refine ⟨.nil, fun x => ⟨fun hx => (by cases hx), ?_⟩⟩
 rintro ⟨i, hi, h1, h2, rfl⟩
 unfold updF at h1 h2
 dsimp only at h1 h2
 split at h2 <;> omega
theorem lap11_one : IsLap (updF (fun _ => 18446744073709551615) 0 15) 14 15 [⟨0, 0, 15⟩] := by
 refine ⟨List.pairwise_singleton _ _, fun x => ⟨fun hx => ?_, ?_⟩⟩
 ·rw [List.mem_singleton] at hx; subst hx
  exact ⟨0, by decide, by decide, by decide, rfl⟩
 ·rintro ⟨i, hi, h1, h2, rfl⟩
  by_cases e : i = 0
  ·subst e; exact List.mem_singleton.2 rfl
  ·exfalso
   unfold updF at h2
   rw [if_neg e] at h2; dsimp only at h2; omega
theorem kl8 : LapR11 kz8.f kz8.now 14 [] := by
 unfold LapR11
 rw [if_pos kf8.2.2.2.1, kf8f, kf8.1]; exact lap11_none
theorem kl10 : LapR11 kz10.f kz10.now 15 [⟨0, 0, 15⟩] := by
 unfold LapR11
 rw [if_pos kf8.2.2.2.2, kf10f, kf8.2.2.1]; exact lap11_one
end Go.Proofs.YtbkdebnkoidicaaGreat
end
section
set_option linter.unusedVariables false
set_option maxRecDepth 20000
namespace Go.Proofs.YtbkdebnkoidicaaGreat
theorem outs_ok : ∀ (l : List Int) (s : PS), PsOk s → l.Nodup → (∀ v ∈ l, ∃ w ∈ s.W, (w.i : Int) = v) → PsOk (l.foldl PS.out s) ∧ (∀ i : Nat, (l.foldl PS.out s).sm[i]? = if (i : Int) ∈ l then some 1 else s.sm[i]?) ∧ (∀ w, w ∈ (l.foldl PS.out s).W ↔ w ∈ s.W ∧ (w.i : Int) ∉ l) ∧ (l.foldl PS.out s).sm.length = s.sm.length
 | [], s, h, _, _ => ⟨h, fun i => by rw [if_neg (by simp)]; rfl, fun w => by simp, rfl⟩
 | v :: l, s, h, hn, hv => by
  obtain ⟨hn1, hn2⟩ := List.nodup_cons.1 hn
  obtain ⟨w, hw, rfl⟩ := hv v (List.mem_cons_self ..)
  have hi := (h.prk w.i).2 ⟨w, hw, rfl⟩
  have e1 : (s.out (w.i : Int)).sm = s.sm.set w.i 1 := by unfold PS.out; rw [stepR_ok hi]
  have e2 : (s.out (w.i : Int)).W = wOut s.W w.i := rfl
  obtain ⟨q1, q2, q3, q4⟩ := outs_ok l (s.out (w.i : Int)) (h.out_ hw) hn2 fun u hu => by
   obtain ⟨x, hx, rfl⟩ := hv u (List.mem_cons_of_mem _ hu)
   exact ⟨x, by rw [e2]; exact wOut_mem.2 ⟨hx, fun e => hn1 (by rw [← e]; exact hu)⟩, rfl⟩
  rw [List.foldl_cons]
  refine ⟨q1, fun i => ?_, fun x => ?_, ?_⟩
  ·rw [q2 i, e1, List.getElem?_set]
   by_cases c : (i : Int) ∈ l
   ·rw [if_pos c, if_pos (List.mem_cons_of_mem _ c)]
   ·rw [if_neg c]
    by_cases d : w.i = i
    ·subst d
     rw [if_pos rfl, if_pos (List.getElem?_eq_some_iff.1 hi).1, if_pos (List.mem_cons_self ..)]
    ·rw [if_neg d, if_neg]
     intro m
     rcases List.mem_cons.1 m with m | m
     ·omega
     ·exact c m
  ·rw [q3 x, e2, wOut_mem, List.mem_cons, not_or, and_assoc]
  ·rw [q4, e1, List.length_set]
theorem markR_at (why : Int) : ∀ (l R : List Int), (∀ v ∈ l, ∃ j : Nat, v = (j : Int) ∧ j < R.length) → ∀ i : Nat, (markR R l why)[i]? = if (i : Int) ∈ l then some why else R[i]?
 | [], R, _, i => by rw [if_neg (by simp)]; rfl
 | v :: l, R, hv, i => by
  obtain ⟨j, rfl, hj⟩ := hv v (List.mem_cons_self ..)
  have e : markR R ((j : Int) :: l) why = markR (R.set j why) l why := by unfold markR; rw [List.foldl_cons, Int.toNat_natCast]
  rw [e, markR_at why l (R.set j why) (fun u hu => by rw [List.length_set]; exact hv u (List.mem_cons_of_mem _ hu)) i, List.getElem?_set]
  by_cases c : (i : Int) ∈ l
  ·rw [if_pos c, if_pos (List.mem_cons_of_mem _ c)]
  ·rw [if_neg c]
   by_cases d : j = i
   ·subst d; rw [if_pos rfl, if_pos hj, if_pos (List.mem_cons_self ..)]
   ·rw [if_neg d, if_neg]
    intro m
    rcases List.mem_cons.1 m with m | m
    ·omega
    ·exact c m
structure Wake (z z' : PoS) (L : List Int) (why : Int) : Prop where
 ps : PsOk z'.s
 len : z'.s.sm.length = z.s.sm.length
 rl : z'.R.length = z.R.length
 w : ∀ x, x ∈ z'.s.W ↔ x ∈ z.s.W ∧ (x.i : Int) ∉ L
 par : ∀ v ∈ L, ∃ x ∈ z.s.W, (x.i : Int) = v
 st : ∀ i : Nat, (i : Int) ∈ L → z'.s.sm[i]? = some 1 ∧ z'.R[i]? = some why
 keep : ∀ i : Nat, (i : Int) ∉ L → z'.s.sm[i]? = z.s.sm[i]? ∧ z'.R[i]? = z.R[i]?
theorem Wake.nil {z : PoS} (h : PsOk z.s) (why : Int) : Wake z z [] why := ⟨h, rfl, rfl, fun x => by simp, (fun v hv => absurd hv (List.not_mem_nil)), (fun i hi => absurd hi (List.not_mem_nil)), fun i _ => ⟨rfl, rfl⟩⟩
theorem Wake.trans {z z1 z2 : PoS} {L1 L2 : List Int} {why : Int} (a : Wake z z1 L1 why) (b : Wake z1 z2 L2 why) : Wake z z2 (L1 ++ L2) why := by
 refine ⟨b.ps, b.len.trans a.len, b.rl.trans a.rl, fun x => ?_, fun v hv => ?_, fun i hi => ?_, fun i hi => ?_⟩
 ·rw [b.w, a.w, List.mem_append, not_or, and_assoc]
 ·rcases List.mem_append.1 hv with hv | hv
  ·exact a.par v hv
  ·obtain ⟨x, hx, e⟩ := b.par v hv
   exact ⟨x, ((a.w x).1 hx).1, e⟩
 ·by_cases c : (i : Int) ∈ L2
  ·exact b.st i c
  ·rw [(b.keep i c).1, (b.keep i c).2]
   exact a.st i ((List.mem_append.1 hi).resolve_right c)
 ·rw [List.mem_append, not_or] at hi
  rw [(b.keep i hi.2).1, (b.keep i hi.2).2]
  exact a.keep i hi.1
theorem waiting_mem {s : PS} {a : Sp} {v : Int} : v ∈ s.waiting a ↔ vldS a ∧ ∃ w ∈ s.W, w.at_ = a ∧ (w.i : Int) = v := by
 unfold PS.waiting
 split
 ·rename_i h; rw [wAt_mem]; exact ⟨fun q => ⟨h, q⟩, fun q => q.2⟩
 ·rename_i h; exact ⟨(fun q => absurd q (List.not_mem_nil)), (fun q => absurd q.1 h)⟩
theorem waiting_nodup {s : PS} (h : PsOk s) (a : Sp) : (s.waiting a).Nodup := by
 unfold PS.waiting
 split
 ·exact wAt_nodup h.nd a
 ·exact .nil
theorem wk_out {s : PS} (h : PsOk s) {x : Wt} (hx : x ∈ s.W) : x.i < s.sm.length := (List.getElem?_eq_some_iff.1 ((h.prk x.i).2 ⟨x, hx, rfl⟩)).1
theorem Wake.list {z : PoS} (h : PsOk z.s) (hr : z.R.length = z.s.sm.length) {l : List Int} (hn : l.Nodup) (hp : ∀ v ∈ l, ∃ x ∈ z.s.W, (x.i : Int) = v) (why : Int) : Wake z { z with s := l.foldl PS.out z.s, R := markR z.R l why } l why := by
 obtain ⟨q1, q2, q3, q4⟩ := outs_ok l z.s h hn hp
 have hm := markR_at why l z.R fun v hv => by
  obtain ⟨x, hx, rfl⟩ := hp v hv
  exact ⟨x.i, rfl, by rw [hr]; exact wk_out h hx⟩
 refine ⟨q1, q4, markR_len _ _ _, q3, hp, fun i hi => ⟨?_, ?_⟩, fun i hi => ⟨?_, ?_⟩⟩
 ·(show (l.foldl PS.out z.s).sm[i]? = _); rw [q2, if_pos hi]
 ·(show (markR z.R l why)[i]? = _); rw [hm, if_pos hi]
 ·(show (l.foldl PS.out z.s).sm[i]? = _); rw [q2, if_neg hi]
 ·(show (markR z.R l why)[i]? = _); rw [hm, if_neg hi]
theorem Wake.all {z : PoS} (h : PsOk z.s) (hr : z.R.length = z.s.sm.length) (a : Sp) (why : Int) : Wake z (z.all a why) (z.s.waiting a) why :=
 Wake.list h hr (waiting_nodup h a) (fun v hv => by obtain ⟨_, x, hx, _, e⟩ := waiting_mem.1 hv; exact ⟨x, hx, e⟩) why
theorem laps_wake : ∀ (l : List Lp) (z : PoS), PsOk z.s → z.R.length = z.s.sm.length → Wake z (z.laps l).1 (z.laps l).2 2 ∧ (z.laps l).1.T = z.T ∧ (z.laps l).1.f = z.f ∧ (z.laps l).1.now = z.now ∧ (∀ x ∈ z.s.W, ((x.i : Int) ∈ (z.laps l).2 ↔ ∃ p ∈ l, x.at_ = (p.fd, p.dir)))
 | [], z, h, _ => ⟨Wake.nil h 2, rfl, rfl, rfl, fun x hx => by simp [PoS.laps]⟩
 | p :: l, z, h, hr => by
  have h1 := Wake.all h hr (p.fd, p.dir) 2
  obtain ⟨q1, q2, q3, q4, q5⟩ := laps_wake l (z.all (p.fd, p.dir) 2) h1.ps (by rw [h1.rl, h1.len]; exact hr)
  refine ⟨h1.trans q1, q2, q3, q4, fun x hx => ?_⟩
  show (x.i : Int) ∈ z.s.waiting (p.fd, p.dir) ++ ((z.all (p.fd, p.dir) 2).laps l).2 ↔ _
  rw [List.mem_append]
  by_cases c : (x.i : Int) ∈ z.s.waiting (p.fd, p.dir)
  ·obtain ⟨_, y, hy, hya, e⟩ := waiting_mem.1 c
   have exy : y = x := wt_one h.nd hy hx (by omega)
   subst exy
   exact ⟨fun _ => ⟨p, List.mem_cons_self .., hya⟩, fun _ => .inl c⟩
  ·have hx1 : x ∈ (z.all (p.fd, p.dir) 2).s.W := (h1.w x).2 ⟨hx, c⟩
   rw [q5 x hx1]
   constructor
   ·rintro (m | ⟨y, hy, e⟩)
    ·exact absurd m c
    ·exact ⟨y, List.mem_cons_of_mem _ hy, e⟩
   ·rintro ⟨y, hy, e⟩
    rcases List.mem_cons.1 hy with rfl | hy
    ·exact absurd (waiting_mem.2 ⟨by rw [← e]; exact h.vld x hx, x, hx, e, rfl⟩) c
    ·exact .inr ⟨y, hy, e⟩
end Go.Proofs.YtbkdebnkoidicaaGreat
end
section
set_option linter.unusedVariables false
set_option maxRecDepth 20000
namespace Go.Proofs.YtbkdebnkoidicaaGreat
def OpN (T : List Slt.Pl) (n : Int) : Prop := ∃ (i : Nat) (x : Slt.Pl), n = (i : Int) ∧ T[i]? = some x ∧ x.opn = true
theorem atT_ok {T : List Slt.Pl} {n : Int} : (atT T n).2 = 0 ↔ OpN T n := by
 constructor
 ·intro h
  unfold atT at h
  by_cases h0 : 0 ≤ n
  ·rw [if_pos h0] at h
   cases hx : T[n.toNat]? with
   | none => rw [hx] at h; cases h
   | some x =>
    rw [hx] at h
    dsimp only at h
    by_cases ho : x.opn = true
    ·exact ⟨n.toNat, x, by omega, hx, ho⟩
    ·rw [if_neg ho] at h; cases h
  ·rw [if_neg h0] at h; cases h
 ·rintro ⟨i, x, rfl, hx, ho⟩
  unfold atT
  rw [if_pos (by omega), Int.toNat_natCast, hx]
  dsimp only
  rw [if_pos ho]
theorem atT_is {T : List Slt.Pl} {i : Nat} {x : Slt.Pl} (hx : T[i]? = some x) (ho : x.opn = true) : atT T (i : Int) = (((i : Int), x.given - 1), 0) := by
 unfold atT
 rw [if_pos (by omega), Int.toNat_natCast, hx]
 dsimp only
 rw [if_pos ho]
theorem getT_open {T : List Slt.Pl} {n g : Int} (h : (getT T n g).2 = 0) : ∃ (i : Nat) (x : Slt.Pl), tbAt T n g = some (i, x) ∧ n = (i : Int) ∧ T[i]? = some x ∧ x.opn = true ∧ g = x.given - 1 := by
 unfold getT at h
 cases hq : tbAt T n g with
 | none => rw [hq] at h; cases h
 | some q =>
  obtain ⟨h1, h2, h3, h4⟩ := tbAt_some hq
  exact ⟨q.1, q.2, rfl, h1, h2, h3, h4⟩
theorem getT_no {T : List Slt.Pl} {n g : Int} (h : ¬ OpN T n) : (getT T n g).2 = 9 := by
 unfold getT
 cases hq : tbAt T n g with
 | none => rfl
 | some q =>
  obtain ⟨h1, h2, h3, h4⟩ := tbAt_some hq
  exact absurd ⟨q.1, q.2, h1, h2, h3⟩ h
theorem opnT_at {T : List Slt.Pl} {v n : Int} (h : OpN T n) : OpN (opnT T v) n := by
 obtain ⟨i, x, rfl, hx, ho⟩ := h
 unfold opnT
 rcases firstC_spec T 0 with ⟨h1, _⟩ | ⟨j, y, h1, h2, h3, _⟩
 ·rw [h1]; exact ⟨i, x, rfl, hx, ho⟩
 ·rw [h1]
  refine ⟨i, x, rfl, ?_, ho⟩
  rw [List.getElem?_set, if_neg, hx]
  intro e
  rw [Nat.zero_add] at e
  subst e
  rw [hx] at h2; cases h2
  rw [ho] at h3; cases h3
theorem clsT_at {T : List Slt.Pl} {n g m : Int} (hm : m ≠ n) : OpN (clsT T n g) m ↔ OpN T m := by
 unfold clsT
 cases hq : tbAt T n g with
 | none => exact Iff.rfl
 | some q =>
  obtain ⟨h1, _, _, _⟩ := tbAt_some hq
  unfold OpN
  dsimp only
  constructor
  ·rintro ⟨i, x, rfl, hx, ho⟩
   rw [List.getElem?_set, if_neg (by omega)] at hx
   exact ⟨i, x, rfl, hx, ho⟩
  ·rintro ⟨i, x, rfl, hx, ho⟩
   refine ⟨i, x, rfl, ?_, ho⟩
   rw [List.getElem?_set, if_neg (by omega)]; exact hx
theorem clsT_self {T : List Slt.Pl} {n g : Int} (h : (getT T n g).2 = 0) : ¬ OpN (clsT T n g) n := by
 obtain ⟨i, x, hq, rfl, hx, _, _⟩ := getT_open h
 unfold clsT
 rw [hq]
 rintro ⟨j, y, e, hy, ho⟩
 have e2 : i = j := by omega
 subst e2
 dsimp only at hy
 rw [List.getElem?_set, if_pos rfl, if_pos (List.getElem?_eq_some_iff.1 hx).1] at hy
 cases hy
 cases ho
theorem clrF_two (f : Nat → Nat) (n j : Nat) : clrF f n 2 j = if j = 2 * n ∨ j = 2 * n + 1 then 18446744073709551615 else f j := by
 show updF (updF f (2 * n + 0) 18446744073709551615) (2 * n + 1) 18446744073709551615 j = _
 unfold updF
 by_cases a : j = 2 * n + 1
 ·rw [if_pos a, if_pos (.inr a)]
 ·rw [if_neg a]
  by_cases b : j = 2 * n
  ·rw [if_pos (by omega), if_pos (.inl b)]
  ·rw [if_neg (by omega), if_neg (by omega)]
structure HInv (z : PoS) : Prop where
 ps : PsOk z.s
 rl : z.R.length = z.s.sm.length
 nw : z.now < 18446744073709551615
 opn : ∀ w ∈ z.s.W, OpN z.T w.at_.1 ∧ z.now < z.f (plS w.at_)
 cls : ∀ i : Nat, ¬ OpN z.T (i : Int) → z.f (2 * i) = 18446744073709551615 ∧ z.f (2 * i + 1) = 18446744073709551615
structure HPost (z z' : PoS) (L : List Int) (why n g : Int) : Prop where
 inv : HInv z'
 len : z'.s.sm.length = z.s.sm.length
 par : ∀ i : Nat, (i : Int) ∈ L ↔ (∃ w ∈ z.s.W, w.i = i) ∧ z'.s.sm[i]? ≠ some 2
 st : ∀ i : Nat, (i : Int) ∈ L → z'.s.sm[i]? = some 1 ∧ z'.R[i]? = some why
 tm : why = 2 → z'.T = z.T ∧ ∀ w ∈ z.s.W, (w.i : Int) ∈ L → z'.f (plS w.at_) ≤ z'.now
 cl : why = 3 → ∀ w ∈ z.s.W, (w.i : Int) ∈ L → (atT z.T w.at_.1).1 = (n, g) ∧ (getT z'.T n g).2 = 9
theorem hinv_new (k now : Nat) (hk : k ≤ 64) (hn : now < 18446744073709551615) : HInv (newS k now) := ⟨PsOk.new hk, by simp [newS], hn, (fun w hw => by cases hw), fun i _ => ⟨rfl, rfl⟩⟩
theorem none_par {z z' : PoS} (h : PsOk z'.s) (hw : ∀ w ∈ z.s.W, ∃ u ∈ z'.s.W, u.i = w.i) (i : Nat) : (i : Int) ∈ ([] : List Int) ↔ (∃ w ∈ z.s.W, w.i = i) ∧ z'.s.sm[i]? ≠ some 2 := by
 constructor
 ·intro m; cases m
 ·rintro ⟨⟨w, hw1, rfl⟩, h2⟩
  exact absurd ((h.prk w.i).2 (hw w hw1)) h2
theorem HPost.same {z : PoS} (h : HInv z) (why n g : Int) : HPost z z [] why n g := ⟨h, rfl, none_par h.ps fun w hw => ⟨w, hw, rfl⟩, (fun i m => by cases m), (fun _ => ⟨rfl, (fun w _ m => by cases m)⟩), (fun _ w _ m => by cases m)⟩
theorem HPost.quiet {z z' : PoS} (h : HInv z') (hl : z'.s.sm.length = z.s.sm.length) (hw : ∀ w ∈ z.s.W, ∃ u ∈ z'.s.W, u.i = w.i) (n g : Int) : HPost z z' [] 0 n g := ⟨h, hl, none_par h.ps hw, (fun i m => by cases m), (fun e => by cases e), (fun e => by cases e)⟩
theorem wake_post {z z1 z' : PoS} {L : List Int} {why n g : Int} (hs : z1.s = z.s) (hw : Wake z1 z' L why) (hi : HInv z') (h2 : why = 2 → z'.T = z.T ∧ ∀ w ∈ z.s.W, (w.i : Int) ∈ L → z'.f (plS w.at_) ≤ z'.now) (h3 : why = 3 → ∀ w ∈ z.s.W, (w.i : Int) ∈ L → (atT z.T w.at_.1).1 = (n, g) ∧ (getT z'.T n g).2 = 9) (hps : PsOk z.s) : HPost z z' L why n g := by
 refine ⟨hi, by rw [hw.len, hs], fun i => ⟨fun m => ⟨?_, ?_⟩, ?_⟩, hw.st, h2, h3⟩
 ·obtain ⟨x, hx, e⟩ := hw.par _ m
  rw [hs] at hx
  exact ⟨x, hx, by omega⟩
 ·rw [(hw.st i m).1]; decide
 ·rintro ⟨⟨w, hw1, rfl⟩, hne⟩
  by_cases c : (w.i : Int) ∈ L
  ·exact c
  ·rw [(hw.keep w.i c).1, hs] at hne
   exact absurd ((hps.prk w.i).2 ⟨w, hw1, rfl⟩) hne
theorem post_open {z : PoS} (h : HInv z) (v n g : Int) : HPost z (z.openE v) [] 0 n g ∧ ((opnR z.T).2 = 0 → ∀ dir, dir = 0 ∨ dir = 1 → (z.openE v).chk (opnR z.T).1.1 (opnR z.T).1.2 dir = 0) := by
 refine ⟨HPost.quiet (z := z) (z' := z.openE v) ⟨h.ps, h.rl, h.nw, fun w hw => ⟨opnT_at (h.opn w hw).1, (h.opn w hw).2⟩, fun i hi => h.cls i fun q => hi (opnT_at q)⟩ rfl (fun w hw => ⟨w, hw, rfl⟩) n g, fun h0 dir hd => ?_⟩
 rcases firstC_spec z.T 0 with ⟨h1, _⟩ | ⟨j, y, h1, h2, h3, _⟩
 ·unfold opnR at h0; rw [h1] at h0; cases h0
 ·rw [Nat.zero_add] at h1
  have e1 : opnR z.T = (((j : Int), y.given), 0) := by unfold opnR; rw [h1]
  have e2 : opnT z.T v = z.T.set j ⟨y.given + 1, v, true⟩ := by unfold opnT; rw [h1]
  have e3 : (getT (opnT z.T v) (j : Int) y.given).2 = 0 := by
   unfold getT
   rw [tbAt_of (i := j) (x := ⟨y.given + 1, v, true⟩) ⟨rfl, by rw [e2, List.getElem?_set, if_pos rfl, if_pos (List.getElem?_eq_some_iff.1 h2).1], rfl, by dsimp only; omega⟩]
  have hn : ¬ OpN z.T (j : Int) := by
   rintro ⟨i, x, e, hx, ho⟩
   have : j = i := by omega
   subst this
   rw [hx] at h2; cases h2; rw [ho] at h3; cases h3
  have hc := h.cls j hn
  have hnw := h.nw
  rw [e1]
  unfold PoS.chk
  rw [spE_ok _ hd]
  show (if (getT (opnT z.T v) (j : Int) y.given).2 = 0 then (if z.f (plS ((j : Int), dir)) ≤ z.now then 12 else 0) else (getT (opnT z.T v) (j : Int) y.given).2) = (0 : Int)
  rw [if_pos e3, if_neg]
  unfold plS
  rw [Int.toNat_natCast]
  rcases hd with rfl | rfl
  ·show ¬ z.f (2 * j + 0) ≤ z.now
   rw [Nat.add_zero, hc.1]; omega
  ·show ¬ z.f (2 * j + 1) ≤ z.now
   rw [hc.2]; omega
theorem plS_eq {a b : Sp} (ha : vldS a) (hb : vldS b) (e : plS a = plS b) : a = b := by
 obtain ⟨x, y, h1, h2, rfl, e1⟩ := vld_nat ha
 obtain ⟨x', y', h1', h2', rfl, e1'⟩ := vld_nat hb
 have e3 : x = x' := by omega
 have e4 : y = y' := by omega
 rw [e3, e4]
theorem post_close {z : PoS} (h : HInv z) (hT : z.T.length = 128) (n g : Int) : HPost z (z.close n g) (z.closeL n g) 3 n g := by
 unfold PoS.close PoS.closeL
 by_cases he : (getT z.T n g).2 = 0
 ·rw [if_pos he, if_pos he]
  obtain ⟨j, x, hq, rfl, hx, ho, hg⟩ := getT_open he
  have hj : j < 128 := by rw [← hT]; exact (List.getElem?_eq_some_iff.1 hx).1
  have hps1 : PsOk (z.cls (j : Int) g).s := h.ps
  have w1 := Wake.all (z := z.cls (j : Int) g) hps1 h.rl ((j : Int), 0) 3
  have w2 := Wake.all (z := (z.cls (j : Int) g).all ((j : Int), 0) 3) w1.ps (by rw [w1.rl, w1.len]; exact h.rl) ((j : Int), 1) 3
  have w := w1.trans w2
  have hs : (z.cls (j : Int) g).s = z.s := rfl
  have hv0 : vldS ((j : Int), 0) := ⟨by dsimp only; omega, by dsimp only; omega, .inl rfl⟩
  have hv1 : vldS ((j : Int), 1) := ⟨by dsimp only; omega, by dsimp only; omega, .inr rfl⟩
  -- who is woken waits for this number, and everybody who does is woken
  have hall : ∀ u ∈ z.s.W, ((u.i : Int) ∈ (z.cls (j : Int) g).s.waiting ((j : Int), 0) ++ ((z.cls (j : Int) g).all ((j : Int), 0) 3).s.waiting ((j : Int), 1) ↔ u.at_.1 = (j : Int)) := by
   intro u hu
   rw [List.mem_append, waiting_mem, waiting_mem]
   constructor
   ·rintro (⟨_, y, hy, hya, e⟩ | ⟨_, y, hy, hya, e⟩)
    ·have : y = u := wt_one h.ps.nd hy hu (by omega)
     subst this; rw [hya]
    ·have : y = u := wt_one h.ps.nd ((w1.w y).1 hy).1 hu (by omega)
     subst this; rw [hya]
   ·intro e
    have hvu := h.ps.vld u hu
    have e2 : u.at_ = ((j : Int), u.at_.2) := by rw [← e]
    rcases hvu.2.2 with d | d
    ·rw [d] at e2
     exact .inl ⟨hv0, u, hu, e2, rfl⟩
    ·rw [d] at e2
     refine .inr ⟨hv1, u, (w1.w u).2 ⟨hu, ?_⟩, e2, rfl⟩
     rw [waiting_mem]
     rintro ⟨_, y, hy, hya, e3⟩
     have : y = u := wt_one h.ps.nd hy hu (by omega)
     subst this
     rw [e2] at hya; cases hya
  refine wake_post hs w ⟨w.ps, by rw [w.rl, w.len]; exact h.rl, h.nw, fun u hu => ?_, fun i hi => ?_⟩ (fun e => by cases e) (fun _ u hu hl => ?_) h.ps
  ·obtain ⟨hu1, hu2⟩ := (w.w u).1 hu
   have hne : u.at_.1 ≠ (j : Int) := fun e => hu2 ((hall u hu1).2 e)
   obtain ⟨q1, q2⟩ := h.opn u hu1
   refine ⟨(clsT_at hne).2 q1, ?_⟩
   show z.now < clrF z.f (Int.toNat (j : Int)) 2 (plS u.at_)
   obtain ⟨a, b, ha, hb, hab, ep⟩ := vld_nat (h.ps.vld u hu1)
   rw [clrF_two, if_neg, ]
   ·exact q2
   ·rw [ep, Int.toNat_natCast]
    rw [hab] at hne
    dsimp only at hne
    omega
  ·show clrF z.f (Int.toNat (j : Int)) 2 (2 * i) = _ ∧ clrF z.f (Int.toNat (j : Int)) 2 (2 * i + 1) = _
   rw [clrF_two, clrF_two, Int.toNat_natCast]
   by_cases e : i = j
   ·rw [if_pos (by omega), if_pos (by omega)]; exact ⟨rfl, rfl⟩
   ·rw [if_neg (by omega), if_neg (by omega)]
    exact h.cls i fun q => hi ((clsT_at (by omega)).2 q)
  ·have e := (hall u hu).1 hl
   refine ⟨?_, getT_no (clsT_self he)⟩
   rw [e, atT_is hx ho, hg]
 ·rw [if_neg he, if_neg he]; exact HPost.same h 3 n g
theorem post_dead {z : PoS} (h : HInv z) (hT : z.T.length = 128) (n g dir : Int) (k : Nat) (h' : Int) (g' : Int) : HPost z (z.dead n g dir k) (z.deadL n g dir k) 2 h' g' := by
 unfold PoS.dead PoS.deadL
 by_cases he : z.spE n g dir = 0
 ·rw [if_pos he, if_pos he]
  have hd : dir = 0 ∨ dir = 1 := by
   by_cases q : dir = 0 ∨ dir = 1
   ·exact q
   ·rw [spE_no z q] at he; cases he
  rw [spE_ok z hd] at he
  obtain ⟨j, x, hq, rfl, hx, ho, hg⟩ := getT_open he
  have hj : j < 128 := by rw [← hT]; exact (List.getElem?_eq_some_iff.1 hx).1
  have hv : vldS ((j : Int), dir) := ⟨by dsimp only; omega, by dsimp only; omega, hd⟩
  have hcls : ∀ i : Nat, ¬ OpN z.T (i : Int) → updF z.f (plS ((j : Int), dir)) k (2 * i) = 18446744073709551615 ∧ updF z.f (plS ((j : Int), dir)) k (2 * i + 1) = 18446744073709551615 := fun i hi => by
   have hij : i ≠ j := fun e => hi (e ▸ ⟨j, x, rfl, hx, ho⟩)
   have hp : plS ((j : Int), dir) = 2 * j ∨ plS ((j : Int), dir) = 2 * j + 1 := by
    unfold plS; rw [Int.toNat_natCast]
    rcases hd with rfl | rfl
    ·exact .inl rfl
    ·exact .inr rfl
   rw [updF_ne _ _ (by omega), updF_ne _ _ (by omega)]
   exact h.cls i hi
  by_cases hk : k ≤ z.now
  ·rw [if_pos hk, if_pos hk]
   have w := Wake.all (z := { z with f := updF z.f (plS ((j : Int), dir)) k }) h.ps h.rl ((j : Int), dir) 2
   refine wake_post (z1 := { z with f := updF z.f (plS ((j : Int), dir)) k }) rfl w ⟨w.ps, by rw [w.rl, w.len]; exact h.rl, h.nw, fun u hu => ?_, hcls⟩ (fun _ => ⟨rfl, fun u hu hl => ?_⟩) (fun e => by cases e) h.ps
   ·obtain ⟨hu1, hu2⟩ := (w.w u).1 hu
    refine ⟨(h.opn u hu1).1, ?_⟩
    show z.now < updF z.f (plS ((j : Int), dir)) k (plS u.at_)
    rw [updF_ne]
    ·exact (h.opn u hu1).2
    ·intro e
     exact hu2 (waiting_mem.2 ⟨hv, u, hu1, plS_eq (h.ps.vld u hu1) hv e, rfl⟩)
   ·obtain ⟨_, y, hy, hya, e⟩ := waiting_mem.1 hl
    have : y = u := wt_one h.ps.nd hy hu (by omega)
    subst this
    show updF z.f (plS ((j : Int), dir)) k (plS y.at_) ≤ z.now
    rw [hya, updF_self]; exact hk
  ·rw [if_neg hk, if_neg hk]
   refine ⟨⟨h.ps, h.rl, h.nw, fun u hu => ⟨(h.opn u hu).1, ?_⟩, hcls⟩, rfl, none_par h.ps fun w hw => ⟨w, hw, rfl⟩, (fun i m => by cases m), (fun _ => ⟨rfl, (fun w _ m => by cases m)⟩), (fun _ w _ m => by cases m)⟩
   show z.now < updF z.f (plS ((j : Int), dir)) k (plS u.at_)
   unfold updF
   split
   ·omega
   ·exact (h.opn u hu).2
 ·rw [if_neg he, if_neg he]; exact HPost.same h 2 _ _
theorem post_wait {z : PoS} (h : HInv z) (hT : z.T.length = 128) (i n g dir : Int) (n' g' : Int) : HPost z (z.wait i n g dir) [] 0 n' g' := by
 unfold PoS.wait
 by_cases he : z.waitE i n g dir = 0
 ·rw [if_pos he]
  unfold PoS.waitE at he
  by_cases e1 : (stR z.s.sm i).2 = 0
  ·rw [if_neg (fun q => q e1)] at he
   by_cases e2 : z.spE n g dir = 0
   ·rw [if_neg (fun q => q e2)] at he
    by_cases e3 : (stR z.s.sm i).1 = 1
    ·rw [if_neg (fun q => q e3)] at he
     obtain ⟨j, x, rfl, hj, e4⟩ := stR_some e1
     rw [e3] at e4; subst e4
     have hd : dir = 0 ∨ dir = 1 := by
      by_cases q : dir = 0 ∨ dir = 1
      ·exact q
      ·rw [spE_no z q] at e2; cases e2
     have hf : z.now < z.f (plS (n, dir)) := by
      unfold PoS.chk at he
      rw [if_pos e2] at he
      by_cases q : z.f (plS (n, dir)) ≤ z.now
      ·rw [if_pos q] at he; cases he
      ·omega
     rw [spE_ok z hd] at e2
     obtain ⟨k, y, hq, rfl, hy, ho, hg⟩ := getT_open e2
     have hk : k < 128 := by rw [← hT]; exact (List.getElem?_eq_some_iff.1 hy).1
     have hv : vldS ((k : Int), dir) := ⟨by dsimp only; omega, by dsimp only; omega, hd⟩
     have ep : z.s.park (j : Int) ((k : Int), dir) = z.s.add j ((k : Int), dir) := by
      unfold PS.park
      rw [if_pos, Int.toNat_natCast]
      unfold PS.parkE
      rw [if_neg (fun q => q e1), if_pos hv, if_pos e3]
     have hp := h.ps.add_ (at_ := ((k : Int), dir)) hj hv
     refine HPost.quiet (z := z) (z' := { z with s := z.s.park (j : Int) ((k : Int), dir) }) ⟨by rw [ep]; exact hp, by rw [park_sm]; exact h.rl, h.nw, fun u hu => ?_, h.cls⟩ (park_sm ..) (fun w hw => ⟨w, ?_, rfl⟩) _ _
     ·rw [ep] at hu
      rcases List.mem_append.1 hu with hu | hu
      ·exact h.opn u hu
      ·rw [List.mem_singleton] at hu
       subst hu
       exact ⟨⟨k, y, rfl, hy, ho⟩, hf⟩
     ·show w ∈ (z.s.park (j : Int) ((k : Int), dir)).W
      rw [ep]
      exact List.mem_append_left _ hw
    ·rw [if_pos e3] at he; cases he
   ·rw [if_pos e2] at he; exact absurd he e2
  ·rw [if_pos e1] at he; exact absurd he e1
 ·rw [if_neg he]; exact HPost.same h 0 _ _
theorem post_sigAll {z : PoS} (h : HInv z) (n g dir : Int) (n' g' : Int) : HPost z (z.sigAll n g dir) (z.sigL n g dir) 1 n' g' := by
 unfold PoS.sigAll PoS.sigL
 by_cases he : z.spE n g dir = 0
 ·rw [if_pos he, if_pos he]
  have w := Wake.all h.ps h.rl (n, dir) 1
  exact wake_post rfl w ⟨w.ps, by rw [w.rl, w.len]; exact h.rl, h.nw, fun u hu => h.opn u ((w.w u).1 hu).1, h.cls⟩ (fun e => by cases e) (fun e => by cases e) h.ps
 ·rw [if_neg he, if_neg he]; exact HPost.same h 1 _ _
def PoS.sigV (z : PoS) (n g dir : Int) : List Int := if (z.sigR n g dir).2 = 0 then [(z.sigR n g dir).1] else []
theorem post_sig {z : PoS} (h : HInv z) (n g dir : Int) (n' g' : Int) : HPost z (z.sig n g dir) (z.sigV n g dir) 1 n' g' := by
 unfold PoS.sig PoS.sigV
 by_cases he : (z.sigR n g dir).2 = 0
 ·rw [if_pos he, if_pos he]
  have e0 : z.spE n g dir = 0 := by
   unfold PoS.sigR at he
   by_cases q : z.spE n g dir = 0
   ·exact q
   ·rw [if_neg q] at he; exact absurd he q
  have e1 : z.sigR n g dir = z.s.wakeR (n, dir) := by unfold PoS.sigR; rw [if_pos e0]
  rw [e1] at he ⊢
  have hv : vldS (n, dir) := by
   unfold PS.wakeR at he
   by_cases q : vldS (n, dir)
   ·exact q
   ·rw [if_neg q] at he; cases he
  have hin : (z.s.wakeR (n, dir)).1 ∈ z.s.waiting (n, dir) := by
   unfold PS.wakeR PS.waiting at *
   rw [if_pos hv] at he ⊢
   rw [if_pos hv]
   cases hw : wAt z.s.W (n, dir) with
   | nil => rw [hw] at he; cases he
   | cons v r => exact List.mem_cons_self ..
  obtain ⟨_, x, hx, hxa, ex⟩ := waiting_mem.1 hin
  have w := Wake.list h.ps h.rl (l := [(z.s.wakeR (n, dir)).1]) (List.nodup_cons.2 ⟨List.not_mem_nil, .nil⟩) (fun v hv => by rw [List.mem_singleton] at hv; exact ⟨x, hx, by rw [hv]; exact ex⟩) 1
  have ez : ({ z with s := z.s.wake (n, dir), R := z.R.set (z.s.wakeR (n, dir)).1.toNat 1 } : PoS) = { z with s := [(z.s.wakeR (n, dir)).1].foldl PS.out z.s, R := markR z.R [(z.s.wakeR (n, dir)).1] 1 } := by
   unfold PS.wake
   rw [if_pos he]; rfl
  rw [ez]
  exact wake_post rfl w ⟨w.ps, by rw [w.rl, w.len]; exact h.rl, h.nw, fun u hu => h.opn u ((w.w u).1 hu).1, h.cls⟩ (fun e => by cases e) (fun e => by cases e) h.ps
 ·rw [if_neg he, if_neg he]; exact HPost.same h 1 _ _
theorem post_adv {z : PoS} (h : HInv z) (to : Nat) (hk : to ≤ 18446744073709551615) (l : List Lp) (hl : LapR11 z.f z.now to l) (n' g' : Int) : HPost z ((z.advS to).laps l).1 ((z.advS to).laps l).2 2 n' g' := by
 by_cases he : advE11 z.now to = 0
 ·have e1 : advN11 z.now to = to := by unfold advN11; rw [if_pos he]
  have hto : to ≠ 18446744073709551615 ∧ ¬ to < z.now := by
   unfold advE11 at he
   by_cases q : to = 18446744073709551615
   ·rw [if_pos q] at he; cases he
   ·rw [if_neg q] at he
    by_cases q2 : to < z.now
    ·rw [if_pos q2] at he; cases he
    ·exact ⟨q, q2⟩
  unfold LapR11 at hl
  rw [if_pos he] at hl
  obtain ⟨w, q1, q2, q3, q4⟩ := laps_wake l (z.advS to) h.ps h.rl
  have hmem : ∀ u ∈ z.s.W, ((u.i : Int) ∈ ((z.advS to).laps l).2 ↔ z.f (plS u.at_) ≤ to) := fun u hu => by
   rw [q4 u hu]
   obtain ⟨a, b, ha, hb, hab, ep⟩ := vld_nat (h.ps.vld u hu)
   constructor
   ·rintro ⟨p, hp, e⟩
    obtain ⟨i, hi, h1, h2, rfl⟩ := (hl.mem p).1 hp
    have : plS u.at_ = i := by
     rw [e]; unfold plS lpI
     dsimp only
     omega
    rw [this]; exact h2
   ·intro hle
    refine ⟨lpI z.f (2 * a + b), (hl.mem _).2 ⟨2 * a + b, by omega, by rw [← ep]; exact (h.opn u hu).2, by rw [← ep]; exact hle, rfl⟩, ?_⟩
    rw [hab]; unfold lpI
    dsimp only
    rw [show (2 * a + b) / 2 = a by omega, show (2 * a + b) % 2 = b by omega]
  have hnow : ((z.advS to).laps l).1.now = to := by rw [q3]; exact e1
  refine wake_post (z1 := z.advS to) rfl w ⟨w.ps, by rw [w.rl, w.len]; exact h.rl, ?_, fun u hu => ?_, fun i hi => ?_⟩ (fun _ => ⟨q1, fun u hu hm => ?_⟩) (fun e => by cases e) h.ps
  ·rw [hnow]; omega
  ·obtain ⟨hu1, hu2⟩ := (w.w u).1 hu
   rw [q1, q2, hnow]
   refine ⟨(h.opn u hu1).1, ?_⟩
   show to < z.f (plS u.at_)
   have := mt (hmem u hu1).2 hu2
   omega
  ·rw [q2]
   rw [q1] at hi
   exact h.cls i hi
  ·rw [q2, hnow]
   exact (hmem u hu).1 hm
 ·have e1 : z.advS to = z := by unfold PoS.advS advN11; rw [if_neg he]
  unfold LapR11 at hl
  rw [if_neg he] at hl
  subst hl
  rw [e1]; exact HPost.same h 2 _ _
theorem post_step {z : PoS} (h : HInv z) (fr to i : Int) (hf : fr ≠ 2) (ht : to ≠ 2) (n' g' : Int) (R : List Int) (hR : R.length = z.R.length) : HPost z { z with s := z.s.step fr to i, R := R } [] 0 n' g' :=
 HPost.quiet (z := z) (z' := { z with s := z.s.step fr to i, R := R }) ⟨h.ps.step_ fr to i hf ht, by (show R.length = (z.s.step fr to i).sm.length); rw [step_sm, hR]; exact h.rl, h.nw, h.opn, h.cls⟩ (step_sm ..) (fun w hw => ⟨w, hw, rfl⟩) _ _
theorem post_start {z : PoS} (h : HInv z) (i n' g' : Int) : HPost z (z.start i) [] 0 n' g' := by
 unfold PoS.start
 split
 ·exact post_step h 0 1 i (by decide) (by decide) n' g' _ (List.length_set ..)
 ·exact HPost.same h 0 _ _
theorem post_fin {z : PoS} (h : HInv z) (i n' g' : Int) : HPost z (z.fin i) [] 0 n' g' := post_step h 1 0 i (by decide) (by decide) n' g' z.R rfl
theorem post_turn {z : PoS} (h : HInv z) (i n' g' : Int) : HPost z (z.turn i) [] 0 n' g' := post_step h 1 1 i (by decide) (by decide) n' g' z.R rfl
end Go.Proofs.YtbkdebnkoidicaaGreat
end
section
set_option linter.unusedVariables false
set_option maxRecDepth 20000
namespace Go.Proofs.YtbkdebnkoidicaaGreat
structure Ac11 where
 what : Int
 value : Int
 task : Int
 n : Int
 g : Int
 dir : Int
 tm : Nat
abbrev encA11 (a : Ac11) : List Value := [.int .i64 a.what, .int .i64 a.value, .int .i64 a.task, .int .i64 a.n, .int .i64 a.g, .int .i64 a.dir, .int .u64 (a.tm : Int)]
end Go.Proofs.YtbkdebnkoidicaaGreat
end
section
set_option linter.unusedVariables false
set_option maxRecDepth 20000
namespace Go.Proofs.YtbkdebnkoidicaaGreat
open Go.ChangeShapes Go.WideShapes Go.ChangeAt Go.RowKit Go.Joins Go.Deep
theorem decA {H : Type} {enc : TypeId × Value → H} {W : World} {sp : Nat → Bool} {held : Bool} (m : Nat) (cs : List Value) (y : DataW H × List MemPlace) (h : DataW.trod enc Tryz.prog W 0 sp held m 54 cs = some y) :
  ∃ (x0 : Int) (x1 : Int) (x2 : Int) (x3 : Int) (x4 : Int) (x5 : Int) (x6 : Int), cs = [.int .i64 x0, .int .i64 x1, .int .i64 x2, .int .i64 x3, .int .i64 x4, .int .i64 x5, .int .u64 x6] ∧ (Lit.int .i64 x0).wf = true ∧ (Lit.int .i64 x1).wf = true ∧ (Lit.int .i64 x2).wf = true ∧ (Lit.int .i64 x3).wf = true ∧ (Lit.int .i64 x4).wf = true ∧ (Lit.int .i64 x5).wf = true ∧ (Lit.int .u64 x6).wf = true ∧ True := by
 have hl : cs.length = 7 := (trod_len Tryz.underlying54 h).trans (by kernel_rfl)
 have s3 : Tryz.prog.cellsOf 3 = 1 := by kernel_rfl
 have s28 : Tryz.prog.cellsOf 28 = 1 := by kernel_rfl
 have s30 : Tryz.prog.cellsOf 30 = 2 := by kernel_rfl
 have s44 : Tryz.prog.cellsOf 44 = 1 := by kernel_rfl
 obtain ⟨ng0, yg0, g0⟩ := trod_fld Tryz.underlying54 h (i := 0) rfl
 obtain ⟨x0, e0, _, w0⟩ := DataW.trod_int Tryz.underlying3 g0
 have e0 : (cs.drop 0).take (Tryz.prog.cellsOf 3) = [.int .i64 x0] := e0
 simp only [s3] at e0
 have k0 : cs.drop 0 = .int .i64 x0 :: cs.drop 1 := drop_cons e0
 obtain ⟨ng1, yg1, g1⟩ := trod_fld Tryz.underlying54 h (i := 1) rfl
 obtain ⟨x1, e1, _, w1⟩ := DataW.trod_int Tryz.underlying3 g1
 have e1 : (cs.drop 1).take (Tryz.prog.cellsOf 3) = [.int .i64 x1] := e1
 simp only [s3] at e1
 have k1 : cs.drop 1 = .int .i64 x1 :: cs.drop 2 := drop_cons e1
 obtain ⟨ng2, yg2, g2⟩ := trod_fld Tryz.underlying54 h (i := 2) rfl
 obtain ⟨x2, e2, _, w2⟩ := DataW.trod_int Tryz.underlying3 g2
 have e2 : (cs.drop 2).take (Tryz.prog.cellsOf 3) = [.int .i64 x2] := e2
 simp only [s3] at e2
 have k2 : cs.drop 2 = .int .i64 x2 :: cs.drop 3 := drop_cons e2
 obtain ⟨ng3, yg3, g3⟩ := trod_fld Tryz.underlying54 h (i := 3) rfl
 obtain ⟨ng3_0, yg3_0, g3_0⟩ := trod_fld Tryz.underlying30 g3 (i := 0) rfl
 obtain ⟨x3, e3, _, w3⟩ := DataW.trod_int Tryz.underlying3 g3_0
 have e3 : (((cs.drop 3).take (Tryz.prog.cellsOf 30)).drop 0).take (Tryz.prog.cellsOf 3) = [.int .i64 x3] := e3
 simp only [s3, s30] at e3
 rw [sub_at cs 3 2 0 1 (by decide)] at e3
 have k3 : cs.drop 3 = .int .i64 x3 :: cs.drop 4 := drop_cons e3
 obtain ⟨ng3_1, yg3_1, g3_1⟩ := trod_fld Tryz.underlying30 g3 (i := 1) rfl
 obtain ⟨x4, e4, _, w4⟩ := DataW.trod_int Tryz.underlying3 g3_1
 have e4 : (((cs.drop 3).take (Tryz.prog.cellsOf 30)).drop 1).take (Tryz.prog.cellsOf 3) = [.int .i64 x4] := e4
 simp only [s3, s30] at e4
 rw [sub_at cs 3 2 1 1 (by decide)] at e4
 have k4 : cs.drop 4 = .int .i64 x4 :: cs.drop 5 := drop_cons e4
 obtain ⟨ng4, yg4, g4⟩ := trod_fld Tryz.underlying54 h (i := 4) rfl
 obtain ⟨x5, e5, _, w5⟩ := DataW.trod_int Tryz.underlying44 g4
 have e5 : (cs.drop 5).take (Tryz.prog.cellsOf 44) = [.int .i64 x5] := e5
 simp only [s44] at e5
 have k5 : cs.drop 5 = .int .i64 x5 :: cs.drop 6 := drop_cons e5
 obtain ⟨ng5, yg5, g5⟩ := trod_fld Tryz.underlying54 h (i := 5) rfl
 obtain ⟨x6, e6, _, w6⟩ := DataW.trod_int Tryz.underlying28 g5
 have e6 : (cs.drop 6).take (Tryz.prog.cellsOf 28) = [.int .u64 x6] := e6
 simp only [s28] at e6
 have k6 : cs.drop 6 = .int .u64 x6 :: cs.drop 7 := drop_cons e6
 exact ⟨x0, x1, x2, x3, x4, x5, x6, (List.drop_zero (l := cs)).symm.trans (k0.trans (congrArg (List.cons _) (k1.trans (congrArg (List.cons _) (k2.trans (congrArg (List.cons _) (k3.trans (congrArg (List.cons _) (k4.trans (congrArg (List.cons _) (k5.trans (congrArg (List.cons _) (k6.trans (congrArg (List.cons _) (List.drop_eq_nil_of_le (by omega)))))))))))))))), w0, w1, w2, w3, w4, w5, w6, trivial⟩
theorem decA2 {H : Type} {enc : TypeId × Value → H} {W : World} {sp : Nat → Bool} {held : Bool} (m : Nat) (cs : List Value) (y : DataW H × List MemPlace) (h : DataW.trod enc Tryz.prog W 0 sp held m 54 cs = some y) : ∃ x : Ac11, cs = encA11 x ∧ x.tm ≤ 18446744073709551615 := by
 obtain ⟨a, b, c, n, g, d, t, rfl, _, _, _, _, _, _, w6, _⟩ := decA m cs y h
 obtain ⟨k, rfl, hk⟩ := wf_u64 w6
 exact ⟨⟨a, b, c, n, g, d, k⟩, rfl, hk⟩
end Go.Proofs.YtbkdebnkoidicaaGreat
end
section
set_option linter.unusedVariables false
set_option maxRecDepth 20000
set_option maxHeartbeats 8000000
namespace Go.Proofs.YtbkdebnkoidicaaGreat
theorem known_ok : Spec Tryz.prog 8 [] [] (fun r H' => r = .bool true ∧ H' = []) := by
 refine Spec.of (E := []) Tryz.func8 rfl (by kernel_rfl) Tryz.ntmps8 rfl rfl (fun w => ?_)
 refine WC_seq (WC_region (WLa rfl (WL_nil (WQ_code (WC_seq (WC_region ?_))))))
 refine WL_do rfl rfl rfl (D_call (po_new 3 10 (by decide) (by decide) (by decide)) rfl rfl rfl rfl (pqC)) ?_
 rintro _ _ ⟨_, ⟨m0, rfl, rfl, g0⟩, rfl⟩
 have g0 : PoIs _ kz0 m0 := g0
 refine WLa rfl (WLa rfl (WLa rfl (WLa rfl (WLa rfl (WL_nil (WQ_code (WC_seq (WC_region ?_))))))))
 refine WL_do rfl rfl rfl (D_call (lfd_ok _ _) rfl rfl rfl rfl (pqC)) ?_
 rintro _ _ ⟨_, ⟨rfl, rfl⟩, rfl⟩
 refine WL_do rfl rfl rfl (D_alloc rfl zv30) ?_
 rintro _ _ ⟨b1, rfl, rfl⟩
 refine WL_do0 rfl rfl (D_store (vs := [_, _]) rfl Tryz.sizeOf30 rfl rfl rfl rfl rfl (plC) (Nat.le_of_ble_eq_true rfl)) ?_
 rintro _ _ rfl
 refine WL_nil (WQ_code (WC_seq (WC_seq (WC_region (WLa rfl ?_)))))
 refine WL_val rfl rfl rfl (R_ptrEqNil rfl Tryz.underlying23 rfl) ?_
 refine WLa rfl (WLa rfl ?_)
 refine WL_val rfl rfl rfl (R_neq rfl rfl rfl) ?_
 refine WLa rfl (WLa rfl ?_)
 refine WL_set (s := 22) (v := .bool false) rfl (by simp) ?_
 refine WLa rfl ?_
 refine WL_val rfl rfl rfl (R_loadA (vs := [_, _]) rfl ag30 rfl (mmC) rfl (atZ)) ?_
 refine WL_do rfl rfl rfl (D_call (opens_ok m0 g0 (by omega) 7 0 0 kf0) rfl rfl rfl rfl (pqC)) ?_
 rintro _ _ ⟨_, ⟨rfl, rfl, g1⟩, rfl⟩
 have g1 : PoIs _ kz1 m0 := g1
 refine WL_val rfl rfl rfl (R_not rfl rfl) ?_
 refine WLa rfl (WLa rfl (WLa rfl ?_))
 refine WL_do rfl rfl rfl (D_call (po_start m0 g1 (by omega) 0) rfl rfl rfl rfl (pqC)) ?_
 rintro _ _ ⟨_, ⟨m2, rfl, rfl, p2, g2⟩, rfl⟩
 have g2 : PoIs _ kz2 m2 := g2
 rw [← p2]
 refine WL_val rfl rfl rfl (R_neq rfl rfl rfl) ?_
 refine WL_set (s := 31) (v := .bool false) rfl (by exact congrArg Value.bool (decide_eq_false (fun h => h kf1))) ?_
 refine WLa rfl (WLa rfl (WLa rfl ?_))
 refine WL_do rfl rfl rfl (D_call (po_start m2 g2 (by omega) 1) rfl rfl rfl rfl (pqC)) ?_
 rintro _ _ ⟨_, ⟨m3, rfl, rfl, p3, g3⟩, rfl⟩
 have g3 : PoIs _ kz3 m3 := g3
 rw [← p3]
 refine WL_val rfl rfl rfl (R_neq rfl rfl rfl) ?_
 refine WL_set (s := 36) (v := .bool false) rfl (by exact congrArg Value.bool (decide_eq_false (fun h => h kf2))) ?_
 refine WLa rfl (WLa rfl (WLa rfl ?_))
 refine WL_do rfl rfl rfl (D_call (po_start m3 g3 (by omega) 2) rfl rfl rfl rfl (pqC)) ?_
 rintro _ _ ⟨_, ⟨m4, rfl, rfl, p4, g4⟩, rfl⟩
 have g4 : PoIs _ kz4 m4 := g4
 rw [← p4]
 refine WL_val rfl rfl rfl (R_neq rfl rfl rfl) ?_
 refine WL_set (s := 41) (v := .bool false) rfl (by exact congrArg Value.bool (decide_eq_false (fun h => h kf3))) ?_
 refine WLa rfl (WL_nil (WQ_code ?_))
 refine WC_F rfl ?_
 refine WC_skip (WQ_code (WC_seq (WC_seq (WC_region (WLa rfl ?_)))))
 refine WL_val rfl rfl rfl (R_loadA (vs := [_, _]) rfl ag30 rfl (mmC) rfl (atZ)) ?_
 refine WL_do rfl rfl rfl (D_call (po_wait m4 g4 (by omega) 0 0 0 0) rfl rfl rfl rfl (pqC)) ?_
 rintro _ _ ⟨_, ⟨m5, rfl, rfl, p5, g5⟩, rfl⟩
 have g5 : PoIs _ kz5 m5 := g5
 rw [← p5]
 refine WL_val rfl rfl rfl (R_neq rfl rfl rfl) ?_
 refine WL_set (s := 46) (v := .bool false) rfl (by exact congrArg Value.bool (decide_eq_false (fun h => h kf4))) ?_
 refine WLa rfl (WLa rfl ?_)
 refine WL_val rfl rfl rfl (R_loadA (vs := [_, _]) rfl ag30 rfl (mmC) rfl (atZ)) ?_
 refine WL_do rfl rfl rfl (D_call (po_wait m5 g5 (by omega) 1 0 0 1) rfl rfl rfl rfl (pqC)) ?_
 rintro _ _ ⟨_, ⟨m6, rfl, rfl, p6, g6⟩, rfl⟩
 have g6 : PoIs _ kz6 m6 := g6
 rw [← p6]
 refine WL_val rfl rfl rfl (R_neq rfl rfl rfl) ?_
 refine WL_set (s := 51) (v := .bool false) rfl (by exact congrArg Value.bool (decide_eq_false (fun h => h kf5))) ?_
 refine WLa rfl (WLa rfl (WLa rfl ?_))
 refine WL_val rfl rfl rfl (R_loadA (vs := [_, _]) rfl ag30 rfl (mmC) rfl (atZ)) ?_
 refine WL_do rfl rfl rfl (D_call (po_wait m6 g6 (by omega) 2 0 0 0) rfl rfl rfl rfl (pqC)) ?_
 rintro _ _ ⟨_, ⟨m7, rfl, rfl, p7, g7⟩, rfl⟩
 have g7 : PoIs _ kz7 m7 := g7
 rw [← p7]
 refine WL_val rfl rfl rfl (R_neq rfl rfl rfl) ?_
 refine WL_set (s := 57) (v := .bool false) rfl (by exact congrArg Value.bool (decide_eq_false (fun h => h kf6))) ?_
 refine WLa rfl (WL_nil (WQ_code ?_))
 refine WC_F rfl ?_
 refine WC_skip (WQ_code (WC_seq (WC_region (WLa rfl ?_))))
 refine WL_val rfl rfl rfl (R_loadA (vs := [_, _]) rfl ag30 rfl (mmC) rfl (atZ)) ?_
 refine WL_do rfl rfl rfl (D_call (dead_run m7 g7 (by omega) 0 0 0 15 (by decide) [] kf7.1 kf7.2.1) rfl rfl rfl rfl (pqC)) ?_
 rintro _ _ ⟨_, ⟨m8, o8, c8, t8, rfl, w8, rfl, p8, g8⟩, rfl⟩
 have g8 : PoIs _ kz8 m8 := g8
 rw [← p8]
 refine WLa rfl (WLa rfl (WLa rfl (WLa rfl (WLa rfl (WL_nil (WQ_code (WC_seq (WC_region (WLa rfl ?_)))))))))
 refine WL_do rfl rfl rfl (D_call (adv_run m8 g8 (by omega) 14 (by decide) [] kl8 kf8.2.2.2.1 [] rfl) rfl rfl rfl rfl (pqC)) ?_
 rintro _ _ ⟨_, ⟨m9, o9, c9, t9, rfl, w9, rfl, p9, g9⟩, rfl⟩
 have g9 : PoIs _ kz9 m9 := g9
 rw [← p9]
 refine WLa rfl (WLa rfl (WLa rfl (WLa rfl (WLa rfl (WL_nil (WQ_code (WC_seq (WC_region (WLa rfl ?_)))))))))
 refine WL_val rfl rfl rfl (R_loadA (vs := [_, _]) rfl ag30 rfl (mmC) rfl (atZ)) ?_
 refine WL_do rfl rfl rfl (D_call (po_sig m9 g9 (by omega) 0 0 0) rfl rfl rfl rfl (pqC)) ?_
 rintro _ _ ⟨_, ⟨m10, rfl, rfl, p10, g10⟩, rfl⟩
 have g10 : PoIs _ kz10 m10 := g10
 rw [← p10]
 have hs9 : kz9.sigR 0 0 0 = (0, 0) := kf9.1
 rw [show PoS.sigR _ 0 0 0 = (0, 0) from hs9]
 refine WLa rfl (WLa rfl (WLa rfl (WLa rfl (WLa rfl (WL_nil (WQ_code (WC_seq (WC_seq (WC_region (WLa rfl (WLa rfl ?_)))))))))))
 refine WL_noneC 3 ?_
 refine WL_do rfl rfl rfl (D_call (woke_none o8 c8 t8 w8) rfl rfl rfl rfl (pqC)) ?_
 rintro _ _ ⟨_, ⟨rfl, rfl⟩, rfl⟩
 refine WL_val rfl rfl rfl (R_not rfl rfl) ?_
 refine WLa rfl (WLa rfl (WLa rfl ?_))
 refine WL_do rfl rfl rfl (D_call (woke_none o9 c9 t9 w9) rfl rfl rfl rfl (pqC)) ?_
 rintro _ _ ⟨_, ⟨rfl, rfl⟩, rfl⟩
 refine WL_val rfl rfl rfl (R_not rfl rfl) ?_
 refine WLa rfl (WLa rfl (WLa rfl ?_))
 refine WL_val rfl rfl rfl (R_neq rfl rfl rfl) ?_
 refine WL_set (s := 88) (v := .bool false) rfl (by simp) ?_
 refine WLa rfl (WLa rfl (WLa rfl ?_))
 refine WL_val rfl rfl rfl (R_neq rfl rfl rfl) ?_
 refine WL_set (s := 92) (v := .bool false) rfl (by simp) ?_
 refine WLa rfl (WLa rfl (WLa rfl ?_))
 refine WL_do rfl rfl rfl (D_call (reason_ok m10 g10 (by omega) 0 1 kf9.2) rfl rfl rfl rfl (pqC)) ?_
 rintro _ _ ⟨_, ⟨rfl, rfl⟩, rfl⟩
 refine WL_val rfl rfl rfl (R_not rfl rfl) ?_
 refine WLa rfl (WL_nil (WQ_code ?_))
 refine WC_F rfl ?_
 refine WC_skip (WQ_code (WC_seq (WC_region (WLa rfl ?_))))
 refine WL_do rfl rfl rfl (D_call (adv_run m10 g10 (by omega) 15 (by decide) [⟨0, 0, 15⟩] kl10 kf8.2.2.2.2 [2] kf10.1) rfl rfl rfl rfl (pqC)) ?_
 rintro _ _ ⟨_, ⟨m11, o11, c11, t11, rfl, w11, rfl, p11, g11⟩, rfl⟩
 have g11 : PoIs _ kz11 m11 := g11
 rw [← p11]
 refine WLa rfl (WLa rfl (WLa rfl (WLa rfl (WLa rfl (WL_nil (WQ_code (WC_seq (WC_seq (WC_region (WLa rfl (WLa rfl ?_)))))))))))
 refine WL_do rfl rfl rfl (D_buildSlice rfl si34 rfl rfl rfl) ?_
 rintro _ _ ⟨b2, rfl, rfl⟩
 refine WL_do rfl rfl rfl (D_call (woke_ok [2] (by decide) o11 c11 t11 (some b2) 1 [] w11 ⟨rfl, rfl, by decide, by decide, fun e => by cases e⟩) rfl rfl rfl rfl (pqC)) ?_
 rintro _ _ ⟨_, ⟨rfl, rfl⟩, rfl⟩
 refine WL_val rfl rfl rfl (R_not rfl rfl) ?_
 refine WLa rfl (WLa rfl ?_)
 refine WL_do rfl rfl rfl (D_call (reason_ok m11 g11 (by omega) 2 2 kf10.2.1) rfl rfl rfl rfl (pqC)) ?_
 rintro _ _ ⟨_, ⟨rfl, rfl⟩, rfl⟩
 refine WL_val rfl rfl rfl (R_not rfl rfl) ?_
 refine WLa rfl (WLa rfl (WLa rfl ?_))
 refine WL_val rfl rfl rfl (R_loadA (vs := [_, _]) rfl ag30 rfl (mmC) rfl (atZ)) ?_
 refine WL_do rfl rfl rfl (D_call (po_chk m11 g11 (by omega) 0 0 0) rfl rfl rfl rfl (pqC)) ?_
 rintro _ _ ⟨_, ⟨rfl, rfl⟩, rfl⟩
 refine WL_val rfl rfl rfl (R_neq rfl rfl rfl) ?_
 refine WL_set (s := 118) (v := .bool false) rfl (by exact congrArg Value.bool (decide_eq_false (fun h => h kf10.2.2))) ?_
 refine WLa rfl (WL_nil (WQ_code ?_))
 refine WC_F rfl ?_
 refine WC_skip (WQ_code (WC_seq (WC_region (WLa rfl ?_))))
 refine WL_val rfl rfl rfl (R_loadA (vs := [_, _]) rfl ag30 rfl (mmC) rfl (atZ)) ?_
 refine WL_do rfl rfl rfl (D_call (close_run m11 g11 (by omega) 0 0 [1] kf11.1 kf11.2) rfl rfl rfl rfl (pqC)) ?_
 rintro _ _ ⟨_, ⟨m12, o12, c12, t12, rfl, w12, rfl, p12, g12⟩, rfl⟩
 have g12 : PoIs _ kz12 m12 := g12
 rw [← p12]
 refine WLa rfl (WLa rfl (WLa rfl (WLa rfl (WLa rfl (WL_nil (WQ_code (WC_seq (WC_seq (WC_region (WLa rfl (WLa rfl ?_)))))))))))
 refine WL_do rfl rfl rfl (D_buildSlice rfl si34 rfl rfl rfl) ?_
 rintro _ _ ⟨b3, rfl, rfl⟩
 refine WL_do rfl rfl rfl (D_call (woke_ok [1] (by decide) o12 c12 t12 (some b3) 1 [] w12 ⟨rfl, rfl, by decide, by decide, fun e => by cases e⟩) rfl rfl rfl rfl (pqC)) ?_
 rintro _ _ ⟨_, ⟨rfl, rfl⟩, rfl⟩
 refine WL_val rfl rfl rfl (R_not rfl rfl) ?_
 refine WLa rfl (WLa rfl ?_)
 refine WL_do rfl rfl rfl (D_call (reason_ok m12 g12 (by omega) 1 3 kf12.1) rfl rfl rfl rfl (pqC)) ?_
 rintro _ _ ⟨_, ⟨rfl, rfl⟩, rfl⟩
 refine WL_val rfl rfl rfl (R_not rfl rfl) ?_
 refine WLa rfl (WLa rfl (WLa rfl ?_))
 refine WL_val rfl rfl rfl (R_loadA (vs := [_, _]) rfl ag30 rfl (mmC) rfl (atZ)) ?_
 refine WL_do rfl rfl rfl (D_call (po_chk m12 g12 (by omega) 0 0 0) rfl rfl rfl rfl (pqC)) ?_
 rintro _ _ ⟨_, ⟨rfl, rfl⟩, rfl⟩
 refine WL_val rfl rfl rfl (R_neq rfl rfl rfl) ?_
 refine WL_set (s := 140) (v := .bool false) rfl (by exact congrArg Value.bool (decide_eq_false (fun h => h kf12.2.1))) ?_
 refine WLa rfl (WLa rfl (WLa rfl ?_))
 refine WL_do rfl rfl rfl (D_call (lfd_ok _ _) rfl rfl rfl rfl (pqC)) ?_
 rintro _ _ ⟨_, ⟨rfl, rfl⟩, rfl⟩
 refine WL_do rfl rfl rfl (D_call (opens_ok m12 g12 (by omega) 8 0 1 kf12.2.2) rfl rfl rfl rfl (pqC)) ?_
 rintro _ _ ⟨_, ⟨rfl, rfl, g13⟩, rfl⟩
 have g13 : PoIs _ kz13 m12 := g13
 refine WL_val rfl rfl rfl (R_not rfl rfl) ?_
 refine WLa rfl (WLa rfl (WLa rfl ?_))
 refine WL_do rfl rfl rfl (D_call (lfd_ok _ _) rfl rfl rfl rfl (pqC)) ?_
 rintro _ _ ⟨_, ⟨rfl, rfl⟩, rfl⟩
 refine WL_do rfl rfl rfl (D_call (po_chk m12 g13 (by omega) 0 1 0) rfl rfl rfl rfl (pqC)) ?_
 rintro _ _ ⟨_, ⟨rfl, rfl⟩, rfl⟩
 refine WL_val rfl rfl rfl (R_neq rfl rfl rfl) ?_
 refine WL_set (s := 152) (v := .bool false) rfl (by exact congrArg Value.bool (decide_eq_false (fun h => h kf13.1))) ?_
 refine WLa rfl (WL_nil (WQ_code ?_))
 refine WC_F rfl ?_
 refine WC_skip (WQ_code (WC_seq (WC_region (WLa rfl ?_))))
 refine WL_do rfl rfl rfl (D_call (po_where m12 g13 (by omega) 1) rfl rfl rfl rfl (pqC)) ?_
 rintro _ _ ⟨_, ⟨rfl, rfl⟩, rfl⟩
 refine WLa rfl (WLa rfl (WLa rfl (WLa rfl (WLa rfl (WL_nil (WQ_code (WC_seq (WC_region (WLa rfl ?_)))))))))
 refine WL_val rfl rfl rfl (R_eql rfl rfl rfl) ?_
 refine WL_set (s := 161) (v := .bool true) rfl (by exact congrArg Value.bool (decide_eq_true kf13.2)) ?_
 refine WLa rfl (WL_nil (WQ_code (WC_ret ?_)))
 refine WQ_ret rfl rfl (.cons (.tmp rfl) .nil) rfl (by
   exact ⟨rfl, rfl⟩) (pqC)
end Go.Proofs.YtbkdebnkoidicaaGreat
end
section
set_option linter.unusedVariables false
set_option maxRecDepth 20000
namespace Go.Proofs.YtbkdebnkoidicaaGreat
def PsQ (s : PS) : Prop := ∀ v ∈ s.qm, ∃ i : Nat, v = (i : Int) ∧ s.sm[i]? = some 1
theorem PkIs.rdy {N : Nat} {s : PS} {l : PkM} (h : PkIs N s l) : PsQ s := fun v hv => by
 rw [← h.tk.qm] at hv
 obtain ⟨⟨t, u⟩, hx, rfl⟩ := List.mem_map.1 hv
 obtain ⟨i, hi, hS⟩ := h.tk.tk.back t u hx
 exact ⟨i, hi, by rw [← h.tk.sm, List.getElem?_map, hS]; rfl⟩
theorem wakeAll_ps {s : PS} (h : PsOk s) (a : Sp) : PsOk (s.wakeAll a) := (outs_ok _ s h (waiting_nodup h a) (fun v hv => by obtain ⟨_, x, hx, _, e⟩ := waiting_mem.1 hv; exact ⟨x, hx, e⟩)).1
theorem close_yes11 {z : PoS} {n g : Int} (h : (getT z.T n g).2 = 0) : z.close n g = ((z.cls n g).all (n, 0) 3).all (n, 1) 3 := by unfold PoS.close; rw [if_pos h]
end Go.Proofs.YtbkdebnkoidicaaGreat
end
section
set_option linter.unusedVariables false
set_option maxRecDepth 20000
namespace Go.Proofs.YtbkdebnkoidicaaGreat
abbrev encWt (z : Wt) : List Value := [.int .i64 (z.i : Int), .int .i64 z.at_.1, .int .i64 z.at_.2]
theorem encWt3 (z : Wt) : (encWt z).length = 3 := rfl
theorem encWt_one (W : List Wt) : (W.flatMap encWt).all Value.oneCell' = true := fm_all (fun _ => rfl) W
structure RfM where
 os : Option Nat
 sc : Nat
 ts : List Value
 oq : Option Nat
 qc : Nat
 tq : List Value
 ow : Option Nat
 wc : Nat
 tw : List Value
abbrev rfV (s : PS) (r : RfM) : Value := .agg #[slV r.os s.sm.length r.sc, slV r.oq s.qm.length r.qc, slV r.ow s.W.length r.wc]
abbrev rfH (s : PS) (r : RfM) : Heap := [⟨r.os, cl (ivs s.sm ++ r.ts) 3⟩, ⟨r.oq, cl (ivs s.qm ++ r.tq) 3⟩, ⟨r.ow, cl (s.W.flatMap encWt ++ r.tw) 278⟩]
structure RfOk (s : PS) (r : RfM) : Prop where
 os : Own r.os s.sm.length r.sc 1 (ivs s.sm) r.ts
 oq : Own r.oq s.qm.length r.qc 1 (ivs s.qm) r.tq
 ow : Own r.ow s.W.length r.wc 3 (s.W.flatMap encWt) r.tw
theorem stepR_same {sm qm : List Int} {fr to i : Int} (h : (stepR sm qm fr to i).1 ≠ 0) : (stepR sm qm fr to i).2 = (sm, qm) := by
 unfold stepR at *
 split at h
 ·rename_i e; rw [if_pos e]
 ·rename_i e
  rw [if_neg e]
  split at h
  ·exact absurd rfl h
  ·rename_i e2; rw [if_neg e2]
theorem step_same {s : PS} {fr to i : Int} (h : (stepR s.sm s.qm fr to i).1 ≠ 0) : s.step fr to i = s := by
 unfold PS.step
 rw [stepR_same h]
theorem wOut_len {W : List Wt} {z : Wt} (hz : z ∈ W) : (wOut W z.i).length < W.length := by
 refine Nat.lt_of_le_of_ne (List.length_filter_le _ _) fun e => ?_
 have := List.length_filter_eq_length_iff.1 e z hz
 exact of_decide_eq_true this rfl
theorem out_room {s : PS} (h : PsOk s) {z : Wt} (hz : z ∈ s.W) : (s.out z.i).qm.length + (s.out z.i).W.length ≤ s.qm.length + s.W.length := by
 have h1 := wOut_len hz
 have hi := (h.prk z.i).2 ⟨z, hz, rfl⟩
 have h2 : (s.out z.i).qm = s.qm.filter (fun v => decide (v ≠ (z.i : Int))) ++ [(z.i : Int)] := by
  unfold PS.out; rw [stepR_ok hi]; rfl
 have h3 := List.length_filter_le (fun v => decide (v ≠ (z.i : Int))) s.qm
 have h4 : (s.out z.i).W = wOut s.W z.i := rfl
 rw [h2, h4, List.length_append, List.length_singleton]
 omega
theorem PkIs.room {N : Nat} {s : PS} {l : PkM} (h : PkIs N s l) : s.qm.length + s.W.length ≤ 64 := by
 have hq := tw_nodup h.tk
 have hv : ∀ v ∈ s.qm, ∃ i : Nat, v = (i : Int) ∧ s.sm[i]? = some 1 := fun v hv => by
  rw [← h.tk.qm] at hv
  obtain ⟨⟨t, u⟩, hx, rfl⟩ := List.mem_map.1 hv
  obtain ⟨i, hi, hS⟩ := h.tk.tk.back t u hx
  exact ⟨i, hi, by rw [← h.tk.sm, List.getElem?_map, hS]; rfl⟩
 have hnd : (s.qm ++ s.W.map (fun z => (z.i : Int))).Nodup := by
  rw [List.nodup_append]
  refine ⟨hq, ?_, fun a ha b hb e => ?_⟩
  ·have := h.ps.nd
   rw [List.Nodup, List.pairwise_map] at this ⊢
   exact this.imp fun hne e => hne (by omega)
  ·subst e
   obtain ⟨i, rfl, hi⟩ := hv a ha
   obtain ⟨z, hz, e⟩ := List.mem_map.1 hb
   have := (h.ps.prk z.i).2 ⟨z, hz, rfl⟩
   rw [show z.i = i from by omega, hi] at this
   cases this
 have := List.Nodup.length_le_of_subset hnd (l₂ := (List.range s.sm.length).map (fun i : Nat => (i : Int))) fun x hx => by
  rcases List.mem_append.1 hx with hx | hx
  ·obtain ⟨i, rfl, hi⟩ := hv x hx
   exact List.mem_map.2 ⟨i, List.mem_range.2 (List.getElem?_eq_some_iff.1 hi).1, rfl⟩
  ·obtain ⟨z, hz, rfl⟩ := List.mem_map.1 hx
   exact List.mem_map.2 ⟨z.i, List.mem_range.2 (List.getElem?_eq_some_iff.1 ((h.ps.prk z.i).2 ⟨z, hz, rfl⟩)).1, rfl⟩
 rw [List.length_append, List.length_map, List.length_map, List.length_range] at this
 have := h.ps.len
 omega
theorem whr_miss {s : PS} {i : Int} (h0 : (stR s.sm i).2 = 0) (hno : ∀ z ∈ s.W, (z.i : Int) ≠ i) : s.whr i = ((0, 0), 8) := by
 unfold PS.whr
 rw [if_neg (fun e => e h0)]
 have : s.W.find? (fun w => decide ((w.i : Int) = i)) = none := by
  rw [List.find?_eq_none]
  intro w hw
  simp only [decide_eq_true_eq]
  exact hno w hw
 rw [this]
theorem whr_zero (s : PS) {i : Int} (h : (s.whr i).2 ≠ 0) : (s.whr i).1 = (0, 0) := by
 unfold PS.whr at *
 split
 ·rfl
 ·rename_i e
  rw [if_neg e] at h
  split
  ·rename_i w hf; rw [hf] at h; exact absurd rfl h
  ·rfl
theorem wAt_next (W : List Wt) (a : Sp) (z : Wt) : wAt (W ++ [z]) a = wAt W a ++ (if z.at_ = a then [(z.i : Int)] else []) := wAt_snoc W z.i z.at_ a
theorem wOut_next (W : List Wt) (i : Int) (z : Wt) : wOut (W ++ [z]) i = wOut W i ++ (if (z.i : Int) ≠ i then [z] else []) := by
 unfold wOut
 rw [List.filter_append]
 by_cases h : (z.i : Int) = i <;> simp [h]
theorem tkW {α : Type} {l : List α} {k : Nat} {x : α} (h : l[k]? = some x) : l.take (k + 1) = l.take k ++ [x] := by
 obtain ⟨h2, rfl⟩ := List.getElem?_eq_some_iff.1 h
 rw [List.take_append_getElem]
structure RnW where
 j : Nat
 l : List Wt
 o : Option Nat
 c : Nat
 t : List Value
structure RiW where
 j : Nat
 l : List Int
 o : Option Nat
 c : Nat
 t : List Value
structure RaW where
 k : Nat
 r : RfM
end Go.Proofs.YtbkdebnkoidicaaGreat
end
section
set_option linter.unusedVariables false
set_option maxRecDepth 20000
set_option maxHeartbeats 1000000
namespace Go.Proofs.YtbkdebnkoidicaaGreat
theorem change_bad (sm qm : List Int) (os : Option Nat) (sc : Nat) (ts : List Value) (oq : Option Nat) (qc : Nat) (tq : List Value) (hos : Own os sm.length sc 1 (ivs sm) ts) (hoq : Own oq qm.length qc 1 (ivs qm) tq) (i fr to : Int) (h : (stepR sm qm fr to i).1 ≠ 0) : Spec Tryz.prog 202 [rV os sm.length sc oq qm.length qc, .int .i64 i, .int .i64 fr, .int .i64 to] (rH os sm ts oq qm tq) (fun r H' => r = .tuple #[rV os sm.length sc oq qm.length qc, .int .i64 (stepR sm qm fr to i).1] ∧ H' = rH os sm ts oq qm tq) := by
 have hsc := hos.le
 have hsb := hos.big
 refine Spec.of (E := [(0, rV os sm.length sc oq qm.length qc), (1, .int .i64 i), (2, .int .i64 fr), (3, .int .i64 to)]) Tryz.func202 rfl (by kernel_rfl) Tryz.ntmps202 rfl rfl (fun w => ?_)
 refine WC_seq (WC_region ?_)
 refine WL_do rfl rfl rfl (D_box (cs := [_, _]) rfl rfl rfl) ?_
 rintro _ _ ⟨b1, rfl, rfl⟩
 refine WL_do rfl rfl rfl (D_alloc rfl zv76) ?_
 rintro _ _ ⟨b2, rfl, rfl⟩
 refine WLa rfl (WL_nil (WQ_code (WC_seq (WC_region ?_))))
 refine WL_val rfl rfl rfl (R_loadA (vs := [_, _]) rfl ag76 rfl (mmY) rfl (atZ)) ?_
 refine WLa rfl ?_
 refine WL_do rfl rfl rfl (D_call (rstate_ok sm qm os sc ts oq qc tq hos hoq i) rfl rfl rfl rfl (pqY)) ?_
 rintro _ _ ⟨_, ⟨rfl, rfl⟩, rfl⟩
 refine WLa rfl (WLa rfl (WLa rfl (WLa rfl (WLa rfl (WL_nil (WQ_code (WC_seq (WC_seq (WC_region (WLa rfl ?_))))))))))
 refine WL_val rfl rfl rfl (R_neq rfl rfl rfl) ?_
 refine WL_nil (WQ_code ?_)
 refine WC_dec rfl (fun c1 => ?_) (fun c1 => ?_)
 ·have hr : i < 0 ∨ (sm.length : Int) ≤ i := by by_cases h9 : i < 0 ∨ (sm.length : Int) ≤ i; exact h9; exact absurd (show (stR sm i).2 = 0 by rw [stR, if_neg h9]) c1
  simp only [stR_out hr]
  refine WC_seq (WC_region ?_)
  refine WL_val rfl rfl rfl (R_loadA (vs := [_, _]) rfl ag76 rfl (mmY) rfl (atZ)) ?_
  refine WLa rfl ?_
  refine WL_do0 rfl rfl (D_store (vs := [_, _]) rfl Tryz.sizeOf76 rfl rfl rfl rfl rfl (plY) (Nat.le_of_ble_eq_true rfl)) ?_
  rintro _ _ rfl
  refine WLa rfl (WL_nil (WQ_code (WC_ret ?_)))
  refine WQ_ret rfl rfl (.cons (.cell (vs := [_, _]) rfl ag76 (mmY) rfl (atZ)) (.cons (.tmp rfl) .nil)) rfl (by
    exact ⟨by rw [stepR_out hr]; rfl, rfl⟩) (pqY)
 ·have hr : ¬ (i < 0 ∨ (sm.length : Int) ≤ i) := fun h9 => c1 (by rw [stR_out h9]; decide)
  obtain ⟨i, rfl⟩ := Int.eq_ofNat_of_zero_le (show 0 ≤ i by omega)
  obtain ⟨x, hx⟩ := exE (T := sm) (i := i) (by omega)
  obtain ⟨wb, rfl⟩ := hos.some_of (by omega)
  simp only [stR_in hx]
  refine WC_skip (WQ_code (WC_seq (WC_seq (WC_region (WLa rfl (WLa rfl ?_))))))
  refine WL_val rfl rfl rfl (R_neq rfl rfl rfl) ?_
  refine WL_nil (WQ_code ?_)
  refine WC_dec rfl (fun c2 => ?_) (fun c2 => ?_)
  ·have hne : x ≠ fr := c2
   refine WC_seq (WC_region ?_)
   refine WL_val rfl rfl rfl (R_loadA (vs := [_, _]) rfl ag76 rfl (mmY) rfl (atZ)) ?_
   refine WL_do0 rfl rfl (D_store (vs := [_, _]) rfl Tryz.sizeOf76 rfl rfl rfl rfl rfl (plY) (Nat.le_of_ble_eq_true rfl)) ?_
   rintro _ _ rfl
   refine WLa rfl (WL_nil (WQ_code (WC_ret ?_)))
   refine WQ_ret rfl rfl (.cons (.cell (vs := [_, _]) rfl ag76 (mmY) rfl (atZ)) (.cons (.tmp rfl) .nil)) rfl (by
     exact ⟨by rw [stepR_bad hx hne]; rfl, rfl⟩) (pqY)
  ·exfalso; apply h; obtain rfl : x = fr := Decidable.not_not.1 c2; rw [stepR_ok hx]
theorem rspot_ok (a : Sp) : Spec Tryz.prog 167 [ekS a] [] (fun r H' => r = .bool (decide (vldS a)) ∧ H' = []) := by
 refine Spec.of (E := [(0, ekS a)]) Tryz.func167 rfl (by kernel_rfl) Tryz.ntmps167 rfl rfl (fun w => ?_)
 refine WC_seq (WC_region ?_)
 refine WL_do rfl rfl rfl (D_box (cs := [_, _]) rfl rfl rfl) ?_
 rintro _ _ ⟨b1, rfl, rfl⟩
 refine WLa rfl (WL_nil (WQ_code (WC_seq (WC_region ?_))))
 refine WL_val rfl rfl rfl (R_fieldAddr rfl fa108_0 rfl) ?_
 refine WL_val rfl rfl rfl (R_load rfl sc3 rfl (mmY) rfl) ?_
 refine WL_val rfl rfl rfl (R_geq rfl rfl rfl) ?_
 refine WLa rfl ?_
 refine WL_splitD (s := 6) rfl (fun c1 => ?_) (fun c1 => ?_)
 ·refine WL_val rfl rfl rfl (R_fieldAddr rfl fa108_0 rfl) ?_
  refine WL_val rfl rfl rfl (R_load rfl sc3 rfl (mmY) rfl) ?_
  refine WL_val rfl rfl rfl (R_leq rfl rfl rfl) ?_
  refine WLa rfl (WLa rfl ?_)
  refine WL_splitD (s := 11) rfl (fun c2 => ?_) (fun c2 => ?_)
  ·refine WL_val rfl rfl rfl (R_fieldAddr rfl fa108_1 rfl) ?_
   refine WL_val rfl rfl rfl (R_load rfl sc44 rfl (mmY) rfl) ?_
   refine WL_val rfl rfl rfl (R_eql rfl rfl rfl) ?_
   refine WLa rfl ?_
   refine WL_splitD (s := 15) rfl (fun c3 => ?_) (fun c3 => ?_)
   ·refine WL_skip rfl rfl rfl ?_
    refine WL_skip rfl rfl rfl ?_
    refine WL_skip rfl rfl rfl ?_
    refine WLa rfl (WLa rfl (WLa rfl (WL_nil (WQ_code (WC_ret ?_)))))
    refine WQ_ret rfl rfl (.cons (.tmp rfl) .nil) rfl (by
      exact ⟨congrArg Value.bool (by first | exact (decide_eq_false (by unfold vldS; omega)).symm | exact (decide_eq_true (by unfold vldS; omega)).symm | exact decide_eq_decide.2 (by unfold vldS; omega)), rfl⟩) (pqY)
   ·refine WL_val rfl rfl rfl (R_fieldAddr rfl fa108_1 rfl) ?_
    refine WL_val rfl rfl rfl (R_load rfl sc44 rfl (mmY) rfl) ?_
    refine WL_val rfl rfl rfl (R_eql rfl rfl rfl) ?_
    refine WLa rfl (WLa rfl (WLa rfl (WL_nil (WQ_code (WC_ret ?_)))))
    refine WQ_ret rfl rfl (.cons (.tmp rfl) .nil) rfl (by
      exact ⟨congrArg Value.bool (by first | exact (decide_eq_false (by unfold vldS; omega)).symm | exact (decide_eq_true (by unfold vldS; omega)).symm | exact decide_eq_decide.2 (by unfold vldS; omega)), rfl⟩) (pqY)
  ·refine WL_skip rfl rfl rfl ?_
   refine WL_skip rfl rfl rfl ?_
   refine WL_skip rfl rfl rfl ?_
   refine WL_skip rfl rfl rfl ?_
   refine WL_skip rfl rfl rfl ?_
   refine WL_skip rfl rfl rfl ?_
   refine WL_skip rfl rfl rfl ?_
   refine WL_skip rfl rfl rfl ?_
   refine WLa rfl (WLa rfl (WL_nil (WQ_code (WC_ret ?_))))
   refine WQ_ret rfl rfl (.cons (.tmp rfl) .nil) rfl (by
     exact ⟨congrArg Value.bool (by first | exact (decide_eq_false (by unfold vldS; omega)).symm | exact (decide_eq_true (by unfold vldS; omega)).symm | exact decide_eq_decide.2 (by unfold vldS; omega)), rfl⟩) (pqY)
 ·refine WL_skip rfl rfl rfl ?_
  refine WL_skip rfl rfl rfl ?_
  refine WL_skip rfl rfl rfl ?_
  refine WLa rfl (WLa rfl ?_)
  refine WL_skip rfl rfl rfl ?_
  refine WL_skip rfl rfl rfl ?_
  refine WL_skip rfl rfl rfl ?_
  refine WL_skip rfl rfl rfl ?_
  refine WL_skip rfl rfl rfl ?_
  refine WL_skip rfl rfl rfl ?_
  refine WL_skip rfl rfl rfl ?_
  refine WL_skip rfl rfl rfl ?_
  refine WLa rfl (WLa rfl (WL_nil (WQ_code (WC_ret ?_))))
  refine WQ_ret rfl rfl (.cons (.tmp rfl) .nil) rfl (by
    exact ⟨congrArg Value.bool (by first | exact (decide_eq_false (by unfold vldS; omega)).symm | exact (decide_eq_true (by unfold vldS; omega)).symm | exact decide_eq_decide.2 (by unfold vldS; omega)), rfl⟩) (pqY)
theorem with_bad (o1 o2 o3 o4 o5 : Option Nat) (n1 c1 n2 c2 n3 c3 n4 c4 n5 c5 : Nat) (e : Int) (h : e ≠ 0) : Spec Tryz.prog 173 [.agg #[slV o1 n1 c1, slV o2 n2 c2, slV o3 n3 c3], .agg #[slV o4 n4 c4, slV o5 n5 c5], .int .i64 e] [] (fun r H' => r = .tuple #[.agg #[slV o1 n1 c1, slV o2 n2 c2, slV o3 n3 c3], .int .i64 e] ∧ H' = []) := by
 refine Spec.of (E := [(0, .agg #[slV o1 n1 c1, slV o2 n2 c2, slV o3 n3 c3]), (1, .agg #[slV o4 n4 c4, slV o5 n5 c5]), (2, .int .i64 e)]) Tryz.func173 rfl (by kernel_rfl) Tryz.ntmps173 rfl rfl (fun w => ?_)
 refine WC_seq (WC_region ?_)
 refine WL_do rfl rfl rfl (D_box (cs := [_, _, _]) rfl rfl rfl) ?_
 rintro _ _ ⟨b1, rfl, rfl⟩
 refine WL_do rfl rfl rfl (D_box (cs := [_, _]) rfl rfl rfl) ?_
 rintro _ _ ⟨b2, rfl, rfl⟩
 refine WL_do rfl rfl rfl (D_alloc rfl zv79) ?_
 rintro _ _ ⟨b3, rfl, rfl⟩
 refine WLa rfl (WL_nil (WQ_code (WC_seq (WC_seq (WC_region (WLa rfl ?_))))))
 refine WL_val rfl rfl rfl (R_neq rfl rfl rfl) ?_
 refine WL_nil (WQ_code ?_)
 refine WC_dT rfl (by exact h) ?_
 refine WC_seq (WC_region ?_)
 refine WL_val rfl rfl rfl (R_loadA (vs := [_, _, _]) rfl ag79 rfl (mmY) rfl (atZ)) ?_
 refine WLa rfl ?_
 refine WL_do0 rfl rfl (D_store (vs := [_, _, _]) rfl Tryz.sizeOf79 rfl rfl rfl rfl rfl (plY) (Nat.le_of_ble_eq_true rfl)) ?_
 rintro _ _ rfl
 refine WLa rfl (WL_nil (WQ_code (WC_ret ?_)))
 refine WQ_ret rfl rfl (.cons (.cell (vs := [_, _, _]) rfl ag79 (mmY) rfl (atZ)) (.cons (.tmp rfl) .nil)) rfl (by
   exact ⟨rfl, rfl⟩) (pqY)
theorem with_ok (o1 o2 o3 o4 o5 : Option Nat) (n1 c1 n2 c2 n3 c3 n4 c4 n5 c5 : Nat) : Spec Tryz.prog 173 [.agg #[slV o1 n1 c1, slV o2 n2 c2, slV o3 n3 c3], .agg #[slV o4 n4 c4, slV o5 n5 c5], .int .i64 0] [] (fun r H' => r = .tuple #[.agg #[slV o4 n4 c4, slV o5 n5 c5, slV o3 n3 c3], .int .i64 0] ∧ H' = []) := by
 refine Spec.of (E := [(0, .agg #[slV o1 n1 c1, slV o2 n2 c2, slV o3 n3 c3]), (1, .agg #[slV o4 n4 c4, slV o5 n5 c5]), (2, .int .i64 0)]) Tryz.func173 rfl (by kernel_rfl) Tryz.ntmps173 rfl rfl (fun w => ?_)
 refine WC_seq (WC_region ?_)
 refine WL_do rfl rfl rfl (D_box (cs := [_, _, _]) rfl rfl rfl) ?_
 rintro _ _ ⟨b1, rfl, rfl⟩
 refine WL_do rfl rfl rfl (D_box (cs := [_, _]) rfl rfl rfl) ?_
 rintro _ _ ⟨b2, rfl, rfl⟩
 refine WL_do rfl rfl rfl (D_alloc rfl zv79) ?_
 rintro _ _ ⟨b3, rfl, rfl⟩
 refine WLa rfl (WL_nil (WQ_code (WC_seq (WC_seq (WC_region (WLa rfl ?_))))))
 refine WL_val rfl rfl rfl (R_neq rfl rfl rfl) ?_
 refine WL_nil (WQ_code ?_)
 refine WC_dF rfl (by decide) ?_
 refine WC_skip (WQ_code (WC_seq (WC_region ?_)))
 refine WL_val rfl rfl rfl (R_loadA (vs := [_, _]) rfl ag76 rfl (mmY) rfl (atZ)) ?_
 refine WL_val rfl rfl rfl (R_fieldAddr rfl fa79_1 rfl) ?_
 refine WL_val rfl rfl rfl (R_load rfl sc77 rfl (mmY) rfl) ?_
 refine WL_val rfl rfl rfl (R_build rfl zv79 pl79 rfl rfl) ?_
 refine WL_do0 rfl rfl (D_store (vs := [_, _, _]) rfl Tryz.sizeOf79 rfl rfl rfl rfl rfl (plY) (Nat.le_of_ble_eq_true rfl)) ?_
 rintro _ _ rfl
 refine WLa rfl (WL_nil (WQ_code (WC_ret ?_)))
 refine WQ_ret rfl rfl (.cons (.cell (vs := [_, _, _]) rfl ag79 (mmY) rfl (atZ)) (.cons (.tmp rfl) .nil)) rfl (by
   exact ⟨rfl, rfl⟩) (pqY)
theorem rstart_bad (sm qm : List Int) (os : Option Nat) (sc : Nat) (ts : List Value) (oq : Option Nat) (qc : Nat) (tq : List Value) (hos : Own os sm.length sc 1 (ivs sm) ts) (hoq : Own oq qm.length qc 1 (ivs qm) tq) (i : Int) (h : (stepR sm qm 0 1 i).1 ≠ 0) : Spec Tryz.prog 174 [rV os sm.length sc oq qm.length qc, .int .i64 i] (rH os sm ts oq qm tq) (fun r H' => r = .tuple #[rV os sm.length sc oq qm.length qc, .int .i64 (stepR sm qm 0 1 i).1] ∧ H' = rH os sm ts oq qm tq) := by
 refine Spec.of (E := [(0, rV os sm.length sc oq qm.length qc), (1, .int .i64 i)]) Tryz.func174 rfl (by kernel_rfl) Tryz.ntmps174 rfl rfl (fun w => ?_)
 refine WC_seq (WC_region ?_)
 refine WL_do rfl rfl rfl (D_box (cs := [_, _]) rfl rfl rfl) ?_
 rintro _ _ ⟨b1, rfl, rfl⟩
 refine WL_do rfl rfl rfl (D_alloc rfl zv76) ?_
 rintro _ _ ⟨b2, rfl, rfl⟩
 refine WLa rfl (WL_nil (WQ_code (WC_seq (WC_region ?_))))
 refine WL_val rfl rfl rfl (R_loadA (vs := [_, _]) rfl ag76 rfl (mmY) rfl (atZ)) ?_
 refine WLa rfl ?_
 refine WL_do rfl rfl rfl (D_call (change_bad sm qm os sc ts oq qc tq hos hoq i 0 1 h) rfl rfl rfl rfl (pqY)) ?_
 rintro _ _ ⟨_, ⟨rfl, rfl⟩, rfl⟩
 refine WLa rfl (WLa rfl ?_)
 refine WL_do0 rfl rfl (D_store (vs := [_, _]) rfl Tryz.sizeOf76 rfl rfl rfl rfl rfl (plY) (Nat.le_of_ble_eq_true rfl)) ?_
 rintro _ _ rfl
 refine WLa rfl (WL_nil (WQ_code (WC_ret ?_)))
 refine WQ_ret rfl rfl (.cons (.cell (vs := [_, _]) rfl ag76 (mmY) rfl (atZ)) (.cons (.tmp rfl) .nil)) rfl (by
   exact ⟨rfl, rfl⟩) (pqY)
theorem rfinish_bad (sm qm : List Int) (os : Option Nat) (sc : Nat) (ts : List Value) (oq : Option Nat) (qc : Nat) (tq : List Value) (hos : Own os sm.length sc 1 (ivs sm) ts) (hoq : Own oq qm.length qc 1 (ivs qm) tq) (i : Int) (h : (stepR sm qm 1 0 i).1 ≠ 0) : Spec Tryz.prog 175 [rV os sm.length sc oq qm.length qc, .int .i64 i] (rH os sm ts oq qm tq) (fun r H' => r = .tuple #[rV os sm.length sc oq qm.length qc, .int .i64 (stepR sm qm 1 0 i).1] ∧ H' = rH os sm ts oq qm tq) := by
 refine Spec.of (E := [(0, rV os sm.length sc oq qm.length qc), (1, .int .i64 i)]) Tryz.func175 rfl (by kernel_rfl) Tryz.ntmps175 rfl rfl (fun w => ?_)
 refine WC_seq (WC_region ?_)
 refine WL_do rfl rfl rfl (D_box (cs := [_, _]) rfl rfl rfl) ?_
 rintro _ _ ⟨b1, rfl, rfl⟩
 refine WL_do rfl rfl rfl (D_alloc rfl zv76) ?_
 rintro _ _ ⟨b2, rfl, rfl⟩
 refine WLa rfl (WL_nil (WQ_code (WC_seq (WC_region ?_))))
 refine WL_val rfl rfl rfl (R_loadA (vs := [_, _]) rfl ag76 rfl (mmY) rfl (atZ)) ?_
 refine WLa rfl ?_
 refine WL_do rfl rfl rfl (D_call (change_bad sm qm os sc ts oq qc tq hos hoq i 1 0 h) rfl rfl rfl rfl (pqY)) ?_
 rintro _ _ ⟨_, ⟨rfl, rfl⟩, rfl⟩
 refine WLa rfl (WLa rfl ?_)
 refine WL_do0 rfl rfl (D_store (vs := [_, _]) rfl Tryz.sizeOf76 rfl rfl rfl rfl rfl (plY) (Nat.le_of_ble_eq_true rfl)) ?_
 rintro _ _ rfl
 refine WLa rfl (WL_nil (WQ_code (WC_ret ?_)))
 refine WQ_ret rfl rfl (.cons (.cell (vs := [_, _]) rfl ag76 (mmY) rfl (atZ)) (.cons (.tmp rfl) .nil)) rfl (by
   exact ⟨rfl, rfl⟩) (pqY)
theorem rturn_bad (sm qm : List Int) (os : Option Nat) (sc : Nat) (ts : List Value) (oq : Option Nat) (qc : Nat) (tq : List Value) (hos : Own os sm.length sc 1 (ivs sm) ts) (hoq : Own oq qm.length qc 1 (ivs qm) tq) (i : Int) (h : (stepR sm qm 1 1 i).1 ≠ 0) : Spec Tryz.prog 176 [rV os sm.length sc oq qm.length qc, .int .i64 i] (rH os sm ts oq qm tq) (fun r H' => r = .tuple #[rV os sm.length sc oq qm.length qc, .int .i64 (stepR sm qm 1 1 i).1] ∧ H' = rH os sm ts oq qm tq) := by
 refine Spec.of (E := [(0, rV os sm.length sc oq qm.length qc), (1, .int .i64 i)]) Tryz.func176 rfl (by kernel_rfl) Tryz.ntmps176 rfl rfl (fun w => ?_)
 refine WC_seq (WC_region ?_)
 refine WL_do rfl rfl rfl (D_box (cs := [_, _]) rfl rfl rfl) ?_
 rintro _ _ ⟨b1, rfl, rfl⟩
 refine WL_do rfl rfl rfl (D_alloc rfl zv76) ?_
 rintro _ _ ⟨b2, rfl, rfl⟩
 refine WLa rfl (WL_nil (WQ_code (WC_seq (WC_region ?_))))
 refine WL_val rfl rfl rfl (R_loadA (vs := [_, _]) rfl ag76 rfl (mmY) rfl (atZ)) ?_
 refine WLa rfl ?_
 refine WL_do rfl rfl rfl (D_call (change_bad sm qm os sc ts oq qc tq hos hoq i 1 1 h) rfl rfl rfl rfl (pqY)) ?_
 rintro _ _ ⟨_, ⟨rfl, rfl⟩, rfl⟩
 refine WLa rfl (WLa rfl ?_)
 refine WL_do0 rfl rfl (D_store (vs := [_, _]) rfl Tryz.sizeOf76 rfl rfl rfl rfl rfl (plY) (Nat.le_of_ble_eq_true rfl)) ?_
 rintro _ _ rfl
 refine WLa rfl (WL_nil (WQ_code (WC_ret ?_)))
 refine WQ_ret rfl rfl (.cons (.cell (vs := [_, _]) rfl ag76 (mmY) rfl (atZ)) (.cons (.tmp rfl) .nil)) rfl (by
   exact ⟨rfl, rfl⟩) (pqY)
end Go.Proofs.YtbkdebnkoidicaaGreat
end
section
set_option linter.unusedVariables false
set_option maxRecDepth 20000
set_option maxHeartbeats 1000000
namespace Go.Proofs.YtbkdebnkoidicaaGreat
theorem rf_new_bad (m : Int) (h : m < 1 ∨ 64 < m) : Spec Tryz.prog 61 [.int .i64 m] [] (fun r H' => r = .tuple #[.agg #[slV none 0 0, slV none 0 0, slV none 0 0], .int .i64 2] ∧ H' = []) := by
 refine Spec.of (E := [(0, .int .i64 m)]) Tryz.func61 rfl (by kernel_rfl) Tryz.ntmps61 rfl rfl (fun w => ?_)
 refine WC_seq (WC_region ?_)
 refine WL_do rfl rfl rfl (D_alloc rfl zv79) ?_
 rintro _ _ ⟨b1, rfl, rfl⟩
 refine WLa rfl (WL_nil (WQ_code (WC_seq (WC_region (WLa rfl ?_)))))
 refine WL_do rfl rfl rfl (D_call (rnew_bad m h) rfl rfl rfl rfl (pqY)) ?_
 rintro _ _ ⟨_, ⟨V, rfl, rfl, rfl⟩, rfl⟩
 refine WLa rfl (WLa rfl (WLa rfl ?_))
 refine WL_do rfl rfl rfl (D_alloc rfl zv76) ?_
 rintro _ _ ⟨b2, rfl, rfl⟩
 refine WL_do0 rfl rfl (D_store (vs := [_, _]) rfl Tryz.sizeOf76 rfl rfl rfl rfl rfl (plY) (Nat.le_of_ble_eq_true rfl)) ?_
 rintro _ _ rfl
 refine WLa rfl (WL_nil (WQ_code (WC_seq (WC_region ?_))))
 refine WL_val rfl rfl rfl (R_loadA (vs := [_, _]) rfl ag76 rfl (mmY) rfl (atZ)) ?_
 refine WL_val rfl rfl rfl (R_build rfl zv79 pl79 rfl rfl) ?_
 refine WLa rfl ?_
 refine WL_do0 rfl rfl (D_store (vs := [_, _, _]) rfl Tryz.sizeOf79 rfl rfl rfl rfl rfl (plY) (Nat.le_of_ble_eq_true rfl)) ?_
 rintro _ _ rfl
 refine WLa rfl (WL_nil (WQ_code (WC_ret ?_)))
 refine WQ_ret rfl rfl (.cons (.cell (vs := [_, _, _]) rfl ag79 (mmY) rfl (atZ)) (.cons (.tmp rfl) .nil)) rfl (by
   exact ⟨rfl, rfl⟩) (pqY)
theorem rf_new (m : Nat) (h1 : 1 ≤ m) (h2 : m ≤ 64) : Spec Tryz.prog 61 [.int .i64 (m : Int)] [] (fun r H' => ∃ r' : RfM, r = .tuple #[rfV ⟨List.replicate m 0, [], []⟩ r', .int .i64 0] ∧ H' = rfH ⟨List.replicate m 0, [], []⟩ r' ∧ RfOk ⟨List.replicate m 0, [], []⟩ r') := by
 refine Spec.of (E := [(0, .int .i64 (m : Int))]) Tryz.func61 rfl (by kernel_rfl) Tryz.ntmps61 rfl rfl (fun w => ?_)
 refine WC_seq (WC_region ?_)
 refine WL_do rfl rfl rfl (D_alloc rfl zv79) ?_
 rintro _ _ ⟨b1, rfl, rfl⟩
 refine WLa rfl (WL_nil (WQ_code (WC_seq (WC_region (WLa rfl ?_)))))
 refine WL_do rfl rfl rfl (D_call (rnew_ok m h1 h2) rfl rfl rfl rfl (pqY)) ?_
 rintro _ _ ⟨_, ⟨V, rfl, os, sc, ts, oq, qc, tq, rfl, hos, hoq, rfl⟩, rfl⟩
 refine WLa rfl (WLa rfl (WLa rfl ?_))
 refine WL_do rfl rfl rfl (D_alloc rfl zv76) ?_
 rintro _ _ ⟨b2, rfl, rfl⟩
 refine WL_do0 rfl rfl (D_store (vs := [_, _]) rfl Tryz.sizeOf76 rfl rfl rfl rfl rfl (plY) (Nat.le_of_ble_eq_true rfl)) ?_
 rintro _ _ rfl
 refine WLa rfl (WL_nil (WQ_code (WC_seq (WC_region ?_))))
 refine WL_val rfl rfl rfl (R_loadA (vs := [_, _]) rfl ag76 rfl (mmY) rfl (atZ)) ?_
 refine WL_val rfl rfl rfl (R_build rfl zv79 pl79 rfl rfl) ?_
 refine WLa rfl ?_
 refine WL_do0 rfl rfl (D_store (vs := [_, _, _]) rfl Tryz.sizeOf79 rfl rfl rfl rfl rfl (plY) (Nat.le_of_ble_eq_true rfl)) ?_
 rintro _ _ rfl
 refine WLa rfl (WL_nil (WQ_code (WC_ret ?_)))
 refine WQ_none 278 ?_
 refine WQ_ret rfl rfl (.cons (.cell (vs := [_, _, _]) rfl ag79 (mmY) rfl (atZ)) (.cons (.tmp rfl) .nil)) rfl (by
   exact ⟨⟨os, sc, ts, oq, qc, tq, none, 0, []⟩, rfl, rfl, hos, hoq, Own.empty 3⟩) (pqY)
theorem rf_start (s : PS) (r : RfM) (hr : RfOk s r) (hs : s.sm.length ≤ 64) (hroom : s.qm.length + s.W.length ≤ 64) (i : Int) : Spec Tryz.prog 133 [rfV s r, .int .i64 i] (rfH s r) (fun v H' => ∃ r' : RfM, v = .tuple #[rfV (s.step 0 1 i) r', .int .i64 (stepR s.sm s.qm 0 1 i).1] ∧ H' = rfH (s.step 0 1 i) r' ∧ RfOk (s.step 0 1 i) r') := by
 by_cases h : (stepR s.sm s.qm 0 1 i).1 = 0
 ·refine Spec.of (E := [(0, rfV s r), (1, .int .i64 i)]) Tryz.func133 rfl (by kernel_rfl) Tryz.ntmps133 rfl rfl (fun w => ?_)
  refine WC_seq (WC_region ?_)
  refine WL_do rfl rfl rfl (D_box (cs := [_, _, _]) rfl rfl rfl) ?_
  rintro _ _ ⟨b1, rfl, rfl⟩
  refine WL_do rfl rfl rfl (D_alloc rfl zv79) ?_
  rintro _ _ ⟨b2, rfl, rfl⟩
  refine WLa rfl (WL_nil (WQ_code (WC_seq ?_)))
  refine WC_drawR (⟨some b2, _⟩ :: rH r.os s.sm r.ts r.oq s.qm r.tq) [(0, true), (1, true), (2, true), (3, true), (4, false), (5, true), (6, true), (7, false), (8, true), (9, true), (10, false), (11, true)] followsMixed rfl rfl (by kernel_rfl) (pqY) ?_
  refine WM_val rfl rfl rfl rfl (R_loadA (vs := [_, _, _]) rfl ag79 rfl (mmY) rfl (atZ)) ?_
  refine WM_val rfl rfl rfl rfl (R_fieldAddr rfl fa79_0 rfl) ?_
  refine WM_val rfl rfl rfl rfl (R_loadA (vs := [_, _]) rfl ag76 rfl (mmY) rfl (atZ)) ?_
  refine WMa rfl ?_
  refine WM_do rfl rfl rfl rfl (D_call (rstart_ok s.sm s.qm r.os r.sc r.ts r.oq r.qc r.tq hr.os hr.oq hs (by omega) i) rfl rfl rfl rfl (pqY)) ?_
  rintro _ _ ⟨_, ⟨V', rfl, os', sc', ts', oq', qc', tq', rfl, hos', hoq', rfl⟩, rfl⟩
  refine ⟨⟨_, pqY⟩, ?_⟩
  rw [h]
  refine WMa rfl (WMa rfl ?_)
  refine WM_do rfl rfl rfl rfl (D_call (with_ok _ _ _ _ _ _ _ _ _ _ _ _ _ _ _) rfl rfl rfl rfl (pqY)) ?_
  rintro _ _ ⟨_, ⟨rfl, rfl⟩, rfl⟩
  refine ⟨⟨_, pqY⟩, ?_⟩
  refine WMa rfl (WMa rfl ?_)
  refine WM_do0 rfl rfl rfl (D_store (vs := [_, _, _]) rfl Tryz.sizeOf79 rfl rfl rfl rfl rfl (plY) (Nat.le_of_ble_eq_true rfl)) ?_
  rintro _ _ rfl
  refine ⟨⟨_, pqY⟩, ?_⟩
  refine WMa rfl (WM_nil (WQ_code (WC_ret ?_)))
  refine WQ_ret rfl rfl (.cons (.cell (vs := [_, _, _]) rfl ag79 (mmY) rfl (atZ)) (.cons (.tmp rfl) .nil)) rfl (by
    exact ⟨⟨os', sc', ts', oq', qc', tq', r.ow, r.wc, r.tw⟩, rfl, rfl, hos', hoq', hr.ow⟩) (pqY)
 ·rw [step_same h]
  refine Spec.of (E := [(0, rfV s r), (1, .int .i64 i)]) Tryz.func133 rfl (by kernel_rfl) Tryz.ntmps133 rfl rfl (fun w => ?_)
  refine WC_seq (WC_region ?_)
  refine WL_do rfl rfl rfl (D_box (cs := [_, _, _]) rfl rfl rfl) ?_
  rintro _ _ ⟨b1, rfl, rfl⟩
  refine WL_do rfl rfl rfl (D_alloc rfl zv79) ?_
  rintro _ _ ⟨b2, rfl, rfl⟩
  refine WLa rfl (WL_nil (WQ_code (WC_seq ?_)))
  refine WC_drawR (⟨some b2, _⟩ :: rH r.os s.sm r.ts r.oq s.qm r.tq) [(0, true), (1, true), (2, true), (3, true), (4, false), (5, true), (6, true), (7, false), (8, true), (9, true), (10, false), (11, true)] followsMixed rfl rfl (by kernel_rfl) (pqY) ?_
  refine WM_val rfl rfl rfl rfl (R_loadA (vs := [_, _, _]) rfl ag79 rfl (mmY) rfl (atZ)) ?_
  refine WM_val rfl rfl rfl rfl (R_fieldAddr rfl fa79_0 rfl) ?_
  refine WM_val rfl rfl rfl rfl (R_loadA (vs := [_, _]) rfl ag76 rfl (mmY) rfl (atZ)) ?_
  refine WMa rfl ?_
  refine WM_do rfl rfl rfl rfl (D_call (rstart_bad s.sm s.qm r.os r.sc r.ts r.oq r.qc r.tq hr.os hr.oq i h) rfl rfl rfl rfl (pqY)) ?_
  rintro _ _ ⟨_, ⟨rfl, rfl⟩, rfl⟩
  refine ⟨⟨_, pqY⟩, ?_⟩
  refine WMa rfl (WMa rfl ?_)
  refine WM_do rfl rfl rfl rfl (D_call (with_bad _ _ _ _ _ _ _ _ _ _ _ _ _ _ _ _ h) rfl rfl rfl rfl (pqY)) ?_
  rintro _ _ ⟨_, ⟨rfl, rfl⟩, rfl⟩
  refine ⟨⟨_, pqY⟩, ?_⟩
  refine WMa rfl (WMa rfl ?_)
  refine WM_do0 rfl rfl rfl (D_store (vs := [_, _, _]) rfl Tryz.sizeOf79 rfl rfl rfl rfl rfl (plY) (Nat.le_of_ble_eq_true rfl)) ?_
  rintro _ _ rfl
  refine ⟨⟨_, pqY⟩, ?_⟩
  refine WMa rfl (WM_nil (WQ_code (WC_ret ?_)))
  refine WQ_ret rfl rfl (.cons (.cell (vs := [_, _, _]) rfl ag79 (mmY) rfl (atZ)) (.cons (.tmp rfl) .nil)) rfl (by
    exact ⟨r, rfl, rfl, hr⟩) (pqY)
theorem rf_finish (s : PS) (r : RfM) (hr : RfOk s r) (hs : s.sm.length ≤ 64) (hroom : s.qm.length + s.W.length ≤ 64) (i : Int) : Spec Tryz.prog 134 [rfV s r, .int .i64 i] (rfH s r) (fun v H' => ∃ r' : RfM, v = .tuple #[rfV (s.step 1 0 i) r', .int .i64 (stepR s.sm s.qm 1 0 i).1] ∧ H' = rfH (s.step 1 0 i) r' ∧ RfOk (s.step 1 0 i) r') := by
 by_cases h : (stepR s.sm s.qm 1 0 i).1 = 0
 ·refine Spec.of (E := [(0, rfV s r), (1, .int .i64 i)]) Tryz.func134 rfl (by kernel_rfl) Tryz.ntmps134 rfl rfl (fun w => ?_)
  refine WC_seq (WC_region ?_)
  refine WL_do rfl rfl rfl (D_box (cs := [_, _, _]) rfl rfl rfl) ?_
  rintro _ _ ⟨b1, rfl, rfl⟩
  refine WL_do rfl rfl rfl (D_alloc rfl zv79) ?_
  rintro _ _ ⟨b2, rfl, rfl⟩
  refine WLa rfl (WL_nil (WQ_code (WC_seq ?_)))
  refine WC_drawR (⟨some b2, _⟩ :: rH r.os s.sm r.ts r.oq s.qm r.tq) [(0, true), (1, true), (2, true), (3, true), (4, false), (5, true), (6, true), (7, false), (8, true), (9, true), (10, false), (11, true)] followsMixed rfl rfl (by kernel_rfl) (pqY) ?_
  refine WM_val rfl rfl rfl rfl (R_loadA (vs := [_, _, _]) rfl ag79 rfl (mmY) rfl (atZ)) ?_
  refine WM_val rfl rfl rfl rfl (R_fieldAddr rfl fa79_0 rfl) ?_
  refine WM_val rfl rfl rfl rfl (R_loadA (vs := [_, _]) rfl ag76 rfl (mmY) rfl (atZ)) ?_
  refine WMa rfl ?_
  refine WM_do rfl rfl rfl rfl (D_call (rfinish_ok s.sm s.qm r.os r.sc r.ts r.oq r.qc r.tq hr.os hr.oq hs (by omega) i) rfl rfl rfl rfl (pqY)) ?_
  rintro _ _ ⟨_, ⟨V', rfl, os', sc', ts', oq', qc', tq', rfl, hos', hoq', rfl⟩, rfl⟩
  refine ⟨⟨_, pqY⟩, ?_⟩
  rw [h]
  refine WMa rfl (WMa rfl ?_)
  refine WM_do rfl rfl rfl rfl (D_call (with_ok _ _ _ _ _ _ _ _ _ _ _ _ _ _ _) rfl rfl rfl rfl (pqY)) ?_
  rintro _ _ ⟨_, ⟨rfl, rfl⟩, rfl⟩
  refine ⟨⟨_, pqY⟩, ?_⟩
  refine WMa rfl (WMa rfl ?_)
  refine WM_do0 rfl rfl rfl (D_store (vs := [_, _, _]) rfl Tryz.sizeOf79 rfl rfl rfl rfl rfl (plY) (Nat.le_of_ble_eq_true rfl)) ?_
  rintro _ _ rfl
  refine ⟨⟨_, pqY⟩, ?_⟩
  refine WMa rfl (WM_nil (WQ_code (WC_ret ?_)))
  refine WQ_ret rfl rfl (.cons (.cell (vs := [_, _, _]) rfl ag79 (mmY) rfl (atZ)) (.cons (.tmp rfl) .nil)) rfl (by
    exact ⟨⟨os', sc', ts', oq', qc', tq', r.ow, r.wc, r.tw⟩, rfl, rfl, hos', hoq', hr.ow⟩) (pqY)
 ·rw [step_same h]
  refine Spec.of (E := [(0, rfV s r), (1, .int .i64 i)]) Tryz.func134 rfl (by kernel_rfl) Tryz.ntmps134 rfl rfl (fun w => ?_)
  refine WC_seq (WC_region ?_)
  refine WL_do rfl rfl rfl (D_box (cs := [_, _, _]) rfl rfl rfl) ?_
  rintro _ _ ⟨b1, rfl, rfl⟩
  refine WL_do rfl rfl rfl (D_alloc rfl zv79) ?_
  rintro _ _ ⟨b2, rfl, rfl⟩
  refine WLa rfl (WL_nil (WQ_code (WC_seq ?_)))
  refine WC_drawR (⟨some b2, _⟩ :: rH r.os s.sm r.ts r.oq s.qm r.tq) [(0, true), (1, true), (2, true), (3, true), (4, false), (5, true), (6, true), (7, false), (8, true), (9, true), (10, false), (11, true)] followsMixed rfl rfl (by kernel_rfl) (pqY) ?_
  refine WM_val rfl rfl rfl rfl (R_loadA (vs := [_, _, _]) rfl ag79 rfl (mmY) rfl (atZ)) ?_
  refine WM_val rfl rfl rfl rfl (R_fieldAddr rfl fa79_0 rfl) ?_
  refine WM_val rfl rfl rfl rfl (R_loadA (vs := [_, _]) rfl ag76 rfl (mmY) rfl (atZ)) ?_
  refine WMa rfl ?_
  refine WM_do rfl rfl rfl rfl (D_call (rfinish_bad s.sm s.qm r.os r.sc r.ts r.oq r.qc r.tq hr.os hr.oq i h) rfl rfl rfl rfl (pqY)) ?_
  rintro _ _ ⟨_, ⟨rfl, rfl⟩, rfl⟩
  refine ⟨⟨_, pqY⟩, ?_⟩
  refine WMa rfl (WMa rfl ?_)
  refine WM_do rfl rfl rfl rfl (D_call (with_bad _ _ _ _ _ _ _ _ _ _ _ _ _ _ _ _ h) rfl rfl rfl rfl (pqY)) ?_
  rintro _ _ ⟨_, ⟨rfl, rfl⟩, rfl⟩
  refine ⟨⟨_, pqY⟩, ?_⟩
  refine WMa rfl (WMa rfl ?_)
  refine WM_do0 rfl rfl rfl (D_store (vs := [_, _, _]) rfl Tryz.sizeOf79 rfl rfl rfl rfl rfl (plY) (Nat.le_of_ble_eq_true rfl)) ?_
  rintro _ _ rfl
  refine ⟨⟨_, pqY⟩, ?_⟩
  refine WMa rfl (WM_nil (WQ_code (WC_ret ?_)))
  refine WQ_ret rfl rfl (.cons (.cell (vs := [_, _, _]) rfl ag79 (mmY) rfl (atZ)) (.cons (.tmp rfl) .nil)) rfl (by
    exact ⟨r, rfl, rfl, hr⟩) (pqY)
theorem rf_turn (s : PS) (r : RfM) (hr : RfOk s r) (hs : s.sm.length ≤ 64) (hroom : s.qm.length + s.W.length ≤ 64) (i : Int) : Spec Tryz.prog 135 [rfV s r, .int .i64 i] (rfH s r) (fun v H' => ∃ r' : RfM, v = .tuple #[rfV (s.step 1 1 i) r', .int .i64 (stepR s.sm s.qm 1 1 i).1] ∧ H' = rfH (s.step 1 1 i) r' ∧ RfOk (s.step 1 1 i) r') := by
 by_cases h : (stepR s.sm s.qm 1 1 i).1 = 0
 ·refine Spec.of (E := [(0, rfV s r), (1, .int .i64 i)]) Tryz.func135 rfl (by kernel_rfl) Tryz.ntmps135 rfl rfl (fun w => ?_)
  refine WC_seq (WC_region ?_)
  refine WL_do rfl rfl rfl (D_box (cs := [_, _, _]) rfl rfl rfl) ?_
  rintro _ _ ⟨b1, rfl, rfl⟩
  refine WL_do rfl rfl rfl (D_alloc rfl zv79) ?_
  rintro _ _ ⟨b2, rfl, rfl⟩
  refine WLa rfl (WL_nil (WQ_code (WC_seq ?_)))
  refine WC_drawR (⟨some b2, _⟩ :: rH r.os s.sm r.ts r.oq s.qm r.tq) [(0, true), (1, true), (2, true), (3, true), (4, false), (5, true), (6, true), (7, false), (8, true), (9, true), (10, false), (11, true)] followsMixed rfl rfl (by kernel_rfl) (pqY) ?_
  refine WM_val rfl rfl rfl rfl (R_loadA (vs := [_, _, _]) rfl ag79 rfl (mmY) rfl (atZ)) ?_
  refine WM_val rfl rfl rfl rfl (R_fieldAddr rfl fa79_0 rfl) ?_
  refine WM_val rfl rfl rfl rfl (R_loadA (vs := [_, _]) rfl ag76 rfl (mmY) rfl (atZ)) ?_
  refine WMa rfl ?_
  refine WM_do rfl rfl rfl rfl (D_call (rturn_ok s.sm s.qm r.os r.sc r.ts r.oq r.qc r.tq hr.os hr.oq hs (by omega) i) rfl rfl rfl rfl (pqY)) ?_
  rintro _ _ ⟨_, ⟨V', rfl, os', sc', ts', oq', qc', tq', rfl, hos', hoq', rfl⟩, rfl⟩
  refine ⟨⟨_, pqY⟩, ?_⟩
  rw [h]
  refine WMa rfl (WMa rfl ?_)
  refine WM_do rfl rfl rfl rfl (D_call (with_ok _ _ _ _ _ _ _ _ _ _ _ _ _ _ _) rfl rfl rfl rfl (pqY)) ?_
  rintro _ _ ⟨_, ⟨rfl, rfl⟩, rfl⟩
  refine ⟨⟨_, pqY⟩, ?_⟩
  refine WMa rfl (WMa rfl ?_)
  refine WM_do0 rfl rfl rfl (D_store (vs := [_, _, _]) rfl Tryz.sizeOf79 rfl rfl rfl rfl rfl (plY) (Nat.le_of_ble_eq_true rfl)) ?_
  rintro _ _ rfl
  refine ⟨⟨_, pqY⟩, ?_⟩
  refine WMa rfl (WM_nil (WQ_code (WC_ret ?_)))
  refine WQ_ret rfl rfl (.cons (.cell (vs := [_, _, _]) rfl ag79 (mmY) rfl (atZ)) (.cons (.tmp rfl) .nil)) rfl (by
    exact ⟨⟨os', sc', ts', oq', qc', tq', r.ow, r.wc, r.tw⟩, rfl, rfl, hos', hoq', hr.ow⟩) (pqY)
 ·rw [step_same h]
  refine Spec.of (E := [(0, rfV s r), (1, .int .i64 i)]) Tryz.func135 rfl (by kernel_rfl) Tryz.ntmps135 rfl rfl (fun w => ?_)
  refine WC_seq (WC_region ?_)
  refine WL_do rfl rfl rfl (D_box (cs := [_, _, _]) rfl rfl rfl) ?_
  rintro _ _ ⟨b1, rfl, rfl⟩
  refine WL_do rfl rfl rfl (D_alloc rfl zv79) ?_
  rintro _ _ ⟨b2, rfl, rfl⟩
  refine WLa rfl (WL_nil (WQ_code (WC_seq ?_)))
  refine WC_drawR (⟨some b2, _⟩ :: rH r.os s.sm r.ts r.oq s.qm r.tq) [(0, true), (1, true), (2, true), (3, true), (4, false), (5, true), (6, true), (7, false), (8, true), (9, true), (10, false), (11, true)] followsMixed rfl rfl (by kernel_rfl) (pqY) ?_
  refine WM_val rfl rfl rfl rfl (R_loadA (vs := [_, _, _]) rfl ag79 rfl (mmY) rfl (atZ)) ?_
  refine WM_val rfl rfl rfl rfl (R_fieldAddr rfl fa79_0 rfl) ?_
  refine WM_val rfl rfl rfl rfl (R_loadA (vs := [_, _]) rfl ag76 rfl (mmY) rfl (atZ)) ?_
  refine WMa rfl ?_
  refine WM_do rfl rfl rfl rfl (D_call (rturn_bad s.sm s.qm r.os r.sc r.ts r.oq r.qc r.tq hr.os hr.oq i h) rfl rfl rfl rfl (pqY)) ?_
  rintro _ _ ⟨_, ⟨rfl, rfl⟩, rfl⟩
  refine ⟨⟨_, pqY⟩, ?_⟩
  refine WMa rfl (WMa rfl ?_)
  refine WM_do rfl rfl rfl rfl (D_call (with_bad _ _ _ _ _ _ _ _ _ _ _ _ _ _ _ _ h) rfl rfl rfl rfl (pqY)) ?_
  rintro _ _ ⟨_, ⟨rfl, rfl⟩, rfl⟩
  refine ⟨⟨_, pqY⟩, ?_⟩
  refine WMa rfl (WMa rfl ?_)
  refine WM_do0 rfl rfl rfl (D_store (vs := [_, _, _]) rfl Tryz.sizeOf79 rfl rfl rfl rfl rfl (plY) (Nat.le_of_ble_eq_true rfl)) ?_
  rintro _ _ rfl
  refine ⟨⟨_, pqY⟩, ?_⟩
  refine WMa rfl (WM_nil (WQ_code (WC_ret ?_)))
  refine WQ_ret rfl rfl (.cons (.cell (vs := [_, _, _]) rfl ag79 (mmY) rfl (atZ)) (.cons (.tmp rfl) .nil)) rfl (by
    exact ⟨r, rfl, rfl, hr⟩) (pqY)
end Go.Proofs.YtbkdebnkoidicaaGreat
end
