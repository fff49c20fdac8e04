/-
 Chapter 11 (poller), part Plays: contracts of functions that the laws call, each for the heap it names.
-/
import Derived.Test.YtbkdebnkoidicaaGreatY06
import Derived.Test.YtbkdebnkoidicaaGreatRows
section
set_option linter.unusedVariables false
set_option maxRecDepth 20000
set_option maxHeartbeats 4000000
namespace Go.Proofs.YtbkdebnkoidicaaGreat
theorem spE_dir {z : PoS} {n g dir : Int} (h0 : z.spE n g dir = 0) : dir = 0 ∨ dir = 1 := by
 by_cases h9 : dir = 0 ∨ dir = 1
 ·exact h9
 ·rw [spE_no z h9] at h0; cases h0
theorem wakeR_zero (s : PS) {a : Sp} (h : (s.wakeR a).2 ≠ 0) : (s.wakeR a).1 = 0 := by
 unfold PS.wakeR at *
 split
 ·rename_i hv
  rw [if_pos hv] at h
  split
  ·rfl
  ·rename_i e; rw [e] at h; exact absurd rfl h
 ·rfl
theorem wakeR_nat {s : PS} (hp : PsOk s) {a : Sp} (h : (s.wakeR a).2 = 0) : ∃ j : Nat, (s.wakeR a).1 = (j : Int) ∧ j < s.sm.length := by
 have hv : vldS a := by
  unfold PS.wakeR at h
  by_cases q : vldS a
  ·exact q
  ·rw [if_neg q] at h; cases h
 refine wait_lt2 hp (a := a) ?_
 unfold PS.wakeR at h ⊢
 unfold PS.waiting
 rw [if_pos hv] at h ⊢
 rw [if_pos hv]
 cases hw : wAt s.W a with
 | nil => rw [hw] at h; cases h
 | cons v r => exact List.mem_cons_self ..
theorem rp_where {K : Nat} {z : PoS} {q : RpM} (hb : PBase z) (hq : RpOk K z q) (hop : ∀ w ∈ z.s.W, OpN z.T w.at_.1) (i : Int) : Spec Tryz.prog 76 [rpV z q, .int .i64 i] (tlE q.ow q.W q.tw :: [⟨q.l.os, cl (ivs z.s.sm ++ q.l.ts) 3⟩, ⟨q.l.oq, cl (ivs z.s.qm ++ q.l.tq) 3⟩, ⟨q.l.ow, cl (z.s.W.flatMap encWt ++ q.l.tw) 278⟩]) (fun v H' => v = .tuple #[.agg #[.int .i64 (z.whr i).1.1.1, .int .i64 (z.whr i).1.1.2], .int .i64 (z.whr i).1.2, .int .i64 (z.whr i).2] ∧ H' = tlE q.ow q.W q.tw :: [⟨q.l.os, cl (ivs z.s.sm ++ q.l.ts) 3⟩, ⟨q.l.oq, cl (ivs z.s.qm ++ q.l.tq) 3⟩, ⟨q.l.ow, cl (z.s.W.flatMap encWt ++ q.l.tw) 278⟩]) := by
 refine Spec.of (E := [(0, rpV z q), (1, .int .i64 i)]) Tryz.func76 rfl (by kernel_rfl) Tryz.ntmps76 rfl rfl (fun w => ?_)
 refine WC_seq (WC_region ?_)
 refine WL_do rfl rfl rfl (D_box (cs := [_, _, _, _, _, _, _, _]) rfl rfl rfl) ?_
 rintro _ _ ⟨b1, rfl, rfl⟩
 refine WL_do rfl rfl rfl (D_alloc rfl zv30) ?_
 rintro _ _ ⟨b2, rfl, rfl⟩
 refine WLa rfl (WLa rfl (WL_nil (WQ_code (WC_seq (WC_region ?_)))))
 refine WL_val rfl rfl rfl (R_fieldAddr rfl fa81_2 rfl) ?_
 refine WL_val rfl rfl rfl (R_loadA (vs := [_, _, _]) rfl ag79 rfl (mmY) rfl (atZ)) ?_
 refine WLa rfl ?_
 refine WL_do rfl rfl rfl (D_call (rf_where z.s q.l hq.l hb.hs hb.room hb.ps i) rfl rfl rfl rfl (pqY)) ?_
 rintro _ _ ⟨_, ⟨rfl, rfl⟩, rfl⟩
 refine WLa rfl (WLa rfl (WLa rfl ?_))
 refine WL_do rfl rfl rfl (D_alloc rfl zv108) ?_
 rintro _ _ ⟨b3, rfl, rfl⟩
 refine WL_do0 rfl rfl (D_store (vs := [_, _]) rfl Tryz.sizeOf108 rfl rfl rfl rfl rfl (plY) (Nat.le_of_ble_eq_true rfl)) ?_
 rintro _ _ rfl
 refine WLa rfl (WL_nil (WQ_code (WC_seq (WC_seq (WC_region (WLa rfl ?_))))))
 refine WL_val rfl rfl rfl (R_neq rfl rfl rfl) ?_
 refine WL_nil (WQ_code ?_)
 refine WC_dec rfl (fun c1 => ?_) (fun c1 => ?_)
 ·have e9 : z.whr i = (((0, 0), 0), (z.s.whr i).2) := by unfold PoS.whr; rw [if_pos c1]
  refine WC_seq (WC_region ?_)
  refine WL_val rfl rfl rfl (R_build rfl zv30 pl30 rfl rfl) ?_
  refine WLa rfl ?_
  refine WL_do0 rfl rfl (D_store (vs := [_, _]) rfl Tryz.sizeOf30 rfl rfl rfl rfl rfl (plY) (Nat.le_of_ble_eq_true rfl)) ?_
  rintro _ _ rfl
  refine WLa rfl (WLa rfl (WL_nil (WQ_code (WC_ret ?_))))
  refine WQ_ret rfl rfl (.cons (.cell (vs := [_, _]) rfl ag30 (mmY) rfl (atZ)) (.cons (.tmp rfl) (.cons (.tmp rfl) .nil))) rfl (by
    exact ⟨by rw [e9]; rfl, rfl⟩) (pqY)
 ·have h9 : (z.s.whr i).2 = 0 := Decidable.not_not.1 c1
  obtain ⟨w0, hw0, ei, e8⟩ := whr_some hb.ps h9
  have e9 : z.whr i = (((atT z.T (z.s.whr i).1.1).1, (z.s.whr i).1.2), 0) := by unfold PoS.whr; rw [if_neg (fun q => q h9), e8]; dsimp only; rw [atT_ok.2 (hop w0 hw0)]
  refine WC_skip (WQ_code (WC_seq (WC_region ?_)))
  refine WL_val rfl rfl rfl (R_fieldAddr rfl fa81_0 rfl) ?_
  refine WL_val rfl rfl rfl (R_loadA (vs := [_, _]) rfl ag71 rfl (mmY) rfl (atZ)) ?_
  refine WL_val rfl rfl rfl (R_fieldAddr rfl fa108_0 rfl) ?_
  refine WL_val rfl rfl rfl (R_load rfl sc3 rfl (mmY) rfl) ?_
  refine WL_do rfl rfl rfl (D_call (t_name hq.al q.ow q.cw q.tw hq.wo (z.s.whr i).1.1) rfl rfl rfl rfl (pqY)) ?_
  rintro _ _ ⟨_, ⟨rfl, rfl⟩, rfl⟩
  refine WLa rfl (WLa rfl (WLa rfl ?_))
  refine WL_do rfl rfl rfl (D_alloc rfl zv30) ?_
  rintro _ _ ⟨b4, rfl, rfl⟩
  refine WL_do0 rfl rfl (D_store (vs := [_, _]) rfl Tryz.sizeOf30 rfl rfl rfl rfl rfl (plY) (Nat.le_of_ble_eq_true rfl)) ?_
  rintro _ _ rfl
  refine WLa rfl (WL_nil (WQ_code (WC_seq ?_)))
  refine WC_drawR [⟨some b2, _⟩] [(0, true), (1, true), (2, true), (3, false), (4, true), (5, true)] followsMixed rfl rfl (by kernel_rfl) (pqY) ?_
  refine WM_val rfl rfl rfl rfl (R_loadA (vs := [_, _]) rfl ag30 rfl (mmY) rfl (atZ)) ?_
  refine WM_val rfl rfl rfl rfl (R_fieldAddr rfl fa108_1 rfl) ?_
  refine WM_val rfl rfl rfl rfl (R_load rfl sc44 rfl (mmY) rfl) ?_
  refine WM_do0 rfl rfl rfl (D_store (vs := [_, _]) rfl Tryz.sizeOf30 rfl rfl rfl rfl rfl (plY) (Nat.le_of_ble_eq_true rfl)) ?_
  rintro _ _ rfl
  refine ⟨⟨_, pqY⟩, ?_⟩
  refine WMa rfl (WMa rfl (WM_nil (WQ_code (WC_ret ?_))))
  refine WQ_ret rfl rfl (.cons (.cell (vs := [_, _]) rfl ag30 (mmY) rfl (atZ)) (.cons (.tmp rfl) (.cons (.tmp rfl) .nil))) rfl (by
    exact ⟨by rw [e9]; rfl, rfl⟩) (pqY)
theorem rp_sigall {K : Nat} {z : PoS} {q : RpM} (hb : PBase z) (hq : RpOk K z q) (n g dir : Int) : Spec Tryz.prog 67 [rpV z q, .agg #[.int .i64 n, .int .i64 g], .int .i64 dir] (rpH z q) (fun v H' => ∃ (q' : RpM) (ob : Option Nat) (c : Nat) (tl : List Value), v = .tuple #[rpV (z.sigAll n g dir) q', slV ob (z.sigL n g dir).length c, .int .i64 (z.spE n g dir)] ∧ Own ob (z.sigL n g dir).length c 1 (ivs (z.sigL n g dir)) tl ∧ H' = ⟨ob, cl (ivs (z.sigL n g dir) ++ tl) 3⟩ :: rpH (z.sigAll n g dir) q' ∧ RpOk K (z.sigAll n g dir) q') := by
 by_cases h0 : z.spE n g dir = 0
 ·have hst : z.sigAll n g dir = z.all (n, dir) 1 := by unfold PoS.sigAll; rw [if_pos h0]
  have hsl : z.sigL n g dir = z.s.waiting (n, dir) := by unfold PoS.sigL; rw [if_pos h0]
  have hsp := spA_ok (n := n) (spE_dir h0)
  rw [h0, hst, hsl]
  refine Spec.of (E := [(0, rpV z q), (1, .agg #[.int .i64 n, .int .i64 g]), (2, .int .i64 dir)]) Tryz.func67 rfl (by kernel_rfl) Tryz.ntmps67 rfl rfl (fun w => ?_)
  refine WC_seq (WC_region ?_)
  refine WL_do rfl rfl rfl (D_box (cs := [_, _, _, _, _, _, _, _]) rfl rfl rfl) ?_
  rintro _ _ ⟨b1, rfl, rfl⟩
  refine WL_do rfl rfl rfl (D_box (cs := [_, _]) rfl rfl rfl) ?_
  rintro _ _ ⟨b2, rfl, rfl⟩
  refine WL_do rfl rfl rfl (D_alloc rfl zv81) ?_
  rintro _ _ ⟨b3, rfl, rfl⟩
  refine WLa rfl (WLa rfl (WL_nil (WQ_code (WC_seq (WC_region ?_)))))
  refine WL_val rfl rfl rfl (R_loadA (vs := [_, _, _, _, _, _, _, _]) rfl ag81 rfl (mmY) rfl (atZ)) ?_
  refine WL_val rfl rfl rfl (R_loadA (vs := [_, _]) rfl ag30 rfl (mmY) rfl (atZ)) ?_
  refine WLa rfl ?_
  refine WL_do rfl rfl rfl (D_call (rp_spot hb hq n g dir) rfl rfl rfl rfl (pqY)) ?_
  rintro _ _ ⟨_, ⟨rfl, rfl⟩, rfl⟩
  rw [hsp]
  refine WLa rfl (WLa rfl (WLa rfl ?_))
  refine WL_do rfl rfl rfl (D_alloc rfl zv108) ?_
  rintro _ _ ⟨b4, rfl, rfl⟩
  refine WL_do0 rfl rfl (D_store (vs := [_, _]) rfl Tryz.sizeOf108 rfl rfl rfl rfl rfl (plY) (Nat.le_of_ble_eq_true rfl)) ?_
  rintro _ _ rfl
  refine WLa rfl (WL_nil (WQ_code (WC_seq (WC_seq (WC_region (WLa rfl ?_))))))
  refine WL_val rfl rfl rfl (R_neq rfl rfl rfl) ?_
  refine WL_set (s := 21) (v := .bool false) rfl (by exact congrArg Value.bool (decide_eq_false (fun q => q h0))) ?_
  refine WL_nil (WQ_code ?_)
  refine WC_F rfl ?_
  refine WC_skip (WQ_code (WC_seq (WC_region ?_)))
  refine WL_val rfl rfl rfl (R_loadA (vs := [_, _, _, _, _, _, _, _]) rfl ag81 rfl (mmY) rfl (atZ)) ?_
  refine WL_val rfl rfl rfl (R_loadA (vs := [_, _]) rfl ag108 rfl (mmY) rfl (atZ)) ?_
  refine WL_do rfl rfl rfl (D_call (rp_all hb hq (n, dir) 1) rfl rfl rfl rfl (pqY)) ?_
  rintro _ _ ⟨_, ⟨q2, o2, cW2, tW2, rfl, w2, rfl, hq2⟩, rfl⟩
  refine WLa rfl (WLa rfl (WLa rfl ?_))
  refine WL_do rfl rfl rfl (D_alloc rfl zv81) ?_
  rintro _ _ ⟨b5, rfl, rfl⟩
  refine WL_do0 rfl rfl (D_store (vs := [_, _, _, _, _, _, _, _]) rfl Tryz.sizeOf81 rfl rfl rfl rfl rfl (plY) (Nat.le_of_ble_eq_true rfl)) ?_
  rintro _ _ rfl
  refine WLa rfl (WL_nil (WQ_code (WC_seq (WC_region ?_))))
  refine WL_val rfl rfl rfl (R_loadA (vs := [_, _, _, _, _, _, _, _]) rfl ag81 rfl (mmY) rfl (atZ)) ?_
  refine WLa rfl ?_
  refine WL_do0 rfl rfl (D_store (vs := [_, _, _, _, _, _, _, _]) rfl Tryz.sizeOf81 rfl rfl rfl rfl rfl (plY) (Nat.le_of_ble_eq_true rfl)) ?_
  rintro _ _ rfl
  refine WLa rfl (WLa rfl (WL_nil (WQ_code (WC_ret ?_))))
  refine WQ_ret rfl rfl (.cons (.cell (vs := [_, _, _, _, _, _, _, _]) rfl ag81 (mmY) rfl (atZ)) (.cons (.tmp rfl) (.cons (.tmp rfl) .nil))) rfl (by
    exact ⟨q2, o2, cW2, tW2, rfl, w2, rfl, hq2⟩) (pqY)
 ·have hst : z.sigAll n g dir = z := by unfold PoS.sigAll; rw [if_neg h0]
  have hsl : z.sigL n g dir = [] := by unfold PoS.sigL; rw [if_neg h0]
  rw [hst, hsl]
  refine Spec.of (E := [(0, rpV z q), (1, .agg #[.int .i64 n, .int .i64 g]), (2, .int .i64 dir)]) Tryz.func67 rfl (by kernel_rfl) Tryz.ntmps67 rfl rfl (fun w => ?_)
  refine WC_seq (WC_region ?_)
  refine WL_do rfl rfl rfl (D_box (cs := [_, _, _, _, _, _, _, _]) rfl rfl rfl) ?_
  rintro _ _ ⟨b1, rfl, rfl⟩
  refine WL_do rfl rfl rfl (D_box (cs := [_, _]) rfl rfl rfl) ?_
  rintro _ _ ⟨b2, rfl, rfl⟩
  refine WL_do rfl rfl rfl (D_alloc rfl zv81) ?_
  rintro _ _ ⟨b3, rfl, rfl⟩
  refine WLa rfl (WLa rfl (WL_nil (WQ_code (WC_seq (WC_region ?_)))))
  refine WL_val rfl rfl rfl (R_loadA (vs := [_, _, _, _, _, _, _, _]) rfl ag81 rfl (mmY) rfl (atZ)) ?_
  refine WL_val rfl rfl rfl (R_loadA (vs := [_, _]) rfl ag30 rfl (mmY) rfl (atZ)) ?_
  refine WLa rfl ?_
  refine WL_do rfl rfl rfl (D_call (rp_spot hb hq n g dir) rfl rfl rfl rfl (pqY)) ?_
  rintro _ _ ⟨_, ⟨rfl, rfl⟩, rfl⟩
  refine WLa rfl (WLa rfl (WLa rfl ?_))
  refine WL_do rfl rfl rfl (D_alloc rfl zv108) ?_
  rintro _ _ ⟨b4, rfl, rfl⟩
  refine WL_do0 rfl rfl (D_store (vs := [_, _]) rfl Tryz.sizeOf108 rfl rfl rfl rfl rfl (plY) (Nat.le_of_ble_eq_true rfl)) ?_
  rintro _ _ rfl
  refine WLa rfl (WL_nil (WQ_code (WC_seq (WC_seq (WC_region (WLa rfl ?_))))))
  refine WL_val rfl rfl rfl (R_neq rfl rfl rfl) ?_
  refine WL_nil (WQ_code ?_)
  refine WC_dT rfl (by exact h0) ?_
  refine WC_seq (WC_region ?_)
  refine WL_val rfl rfl rfl (R_loadA (vs := [_, _, _, _, _, _, _, _]) rfl ag81 rfl (mmY) rfl (atZ)) ?_
  refine WLa rfl ?_
  refine WL_do0 rfl rfl (D_store (vs := [_, _, _, _, _, _, _, _]) rfl Tryz.sizeOf81 rfl rfl rfl rfl rfl (plY) (Nat.le_of_ble_eq_true rfl)) ?_
  rintro _ _ rfl
  refine WLa rfl (WLa rfl (WL_nil (WQ_code (WC_ret ?_))))
  refine WQ_none 3 ?_
  refine WQ_ret rfl rfl (.cons (.cell (vs := [_, _, _, _, _, _, _, _]) rfl ag81 (mmY) rfl (atZ)) (.cons (.tmp rfl) (.cons (.tmp rfl) .nil))) rfl (by
    exact ⟨q, none, 0, [], rfl, Own.empty 1, rfl, hq⟩) (pqY)
theorem rp_sig {K : Nat} {z : PoS} {q : RpM} (hb : PBase z) (hq : RpOk K z q) (n g dir : Int) : Spec Tryz.prog 66 [rpV z q, .agg #[.int .i64 n, .int .i64 g], .int .i64 dir] (rpH z q) (fun v H' => ∃ q' : RpM, v = .tuple #[rpV (z.sig n g dir) q', .int .i64 (z.sigR n g dir).1, .int .i64 (z.sigR n g dir).2] ∧ H' = rpH (z.sig n g dir) q' ∧ RpOk K (z.sig n g dir) q') := by
 have hrl := hb.rl
 by_cases h0 : z.spE n g dir = 0
 ·have hsp := spA_ok (n := n) (spE_dir h0)
  have hsg : z.sigR n g dir = z.s.wakeR (n, dir) := by unfold PoS.sigR; rw [if_pos h0]
  by_cases h1 : (z.s.wakeR (n, dir)).2 = 0
  ·obtain ⟨j, hj, hjl⟩ := wakeR_nat hb.ps h1
   have hst : z.sig n g dir = { z with s := z.s.wake (n, dir), R := z.R.set j 1 } := by unfold PoS.sig; rw [hsg, if_pos h1, hj, Int.toNat_natCast]
   have e : (z.R.set j 1).length = z.R.length := List.length_set ..
   obtain ⟨u9, hu9⟩ := exE (T := z.R) (i := j) (by omega)
   rw [hst, hsg, h1, hj]
   refine Spec.of (E := [(0, rpV z q), (1, .agg #[.int .i64 n, .int .i64 g]), (2, .int .i64 dir)]) Tryz.func66 rfl (by kernel_rfl) Tryz.ntmps66 rfl rfl (fun w => ?_)
   refine WC_seq (WC_region ?_)
   refine WL_do rfl rfl rfl (D_box (cs := [_, _, _, _, _, _, _, _]) rfl rfl rfl) ?_
   rintro _ _ ⟨b1, rfl, rfl⟩
   refine WL_do rfl rfl rfl (D_box (cs := [_, _]) rfl rfl rfl) ?_
   rintro _ _ ⟨b2, rfl, rfl⟩
   refine WL_do rfl rfl rfl (D_alloc rfl zv81) ?_
   rintro _ _ ⟨b3, rfl, rfl⟩
   refine WLa rfl (WLa rfl (WL_nil (WQ_code (WC_seq (WC_region ?_)))))
   refine WL_val rfl rfl rfl (R_loadA (vs := [_, _, _, _, _, _, _, _]) rfl ag81 rfl (mmY) rfl (atZ)) ?_
   refine WL_val rfl rfl rfl (R_loadA (vs := [_, _]) rfl ag30 rfl (mmY) rfl (atZ)) ?_
   refine WLa rfl ?_
   refine WL_do rfl rfl rfl (D_call (rp_spot hb hq n g dir) rfl rfl rfl rfl (pqY)) ?_
   rintro _ _ ⟨_, ⟨rfl, rfl⟩, rfl⟩
   rw [hsp]
   refine WLa rfl (WLa rfl (WLa rfl ?_))
   refine WL_do rfl rfl rfl (D_alloc rfl zv108) ?_
   rintro _ _ ⟨b4, rfl, rfl⟩
   refine WL_do0 rfl rfl (D_store (vs := [_, _]) rfl Tryz.sizeOf108 rfl rfl rfl rfl rfl (plY) (Nat.le_of_ble_eq_true rfl)) ?_
   rintro _ _ rfl
   refine WLa rfl (WL_nil (WQ_code (WC_seq (WC_seq (WC_region (WLa rfl ?_))))))
   refine WL_val rfl rfl rfl (R_neq rfl rfl rfl) ?_
   refine WL_set (s := 22) (v := .bool false) rfl (by exact congrArg Value.bool (decide_eq_false (fun q => q h0))) ?_
   refine WL_nil (WQ_code ?_)
   refine WC_F rfl ?_
   refine WC_skip (WQ_code (WC_seq (WC_region ?_)))
   refine WL_val rfl rfl rfl (R_fieldAddr rfl fa81_2 rfl) ?_
   refine WL_val rfl rfl rfl (R_loadA (vs := [_, _, _]) rfl ag79 rfl (mmY) rfl (atZ)) ?_
   refine WL_val rfl rfl rfl (R_loadA (vs := [_, _]) rfl ag108 rfl (mmY) rfl (atZ)) ?_
   refine WL_do rfl rfl rfl (D_call (rf_wake z.s q.l hq.l hb.hs hb.room hb.ps (n, dir)) rfl rfl rfl rfl (pqY)) ?_
   rintro _ _ ⟨_, ⟨r2, rfl, rfl, hr2⟩, rfl⟩
   rw [hj]
   refine WLa rfl (WLa rfl (WLa rfl (WLa rfl ?_)))
   refine WL_do rfl rfl rfl (D_alloc rfl zv79) ?_
   rintro _ _ ⟨b5, rfl, rfl⟩
   refine WL_do0 rfl rfl (D_store (vs := [_, _, _]) rfl Tryz.sizeOf79 rfl rfl rfl rfl rfl (plY) (Nat.le_of_ble_eq_true rfl)) ?_
   rintro _ _ rfl
   refine WLa rfl (WLa rfl (WL_nil (WQ_code (WC_seq (WC_seq (WC_region (WLa rfl ?_)))))))
   refine WL_val rfl rfl rfl (R_neq rfl rfl rfl) ?_
   refine WL_set (s := 34) (v := .bool false) rfl (by exact congrArg Value.bool (decide_eq_false (fun q => q h1))) ?_
   refine WL_nil (WQ_code ?_)
   refine WC_F rfl ?_
   refine WC_skip (WQ_code (WC_seq (WC_region ?_)))
   refine WL_val rfl rfl rfl (R_loadA (vs := [_, _, _, _, _, _, _, _]) rfl ag81 rfl (mmY) rfl (atZ)) ?_
   refine WL_do rfl rfl rfl (D_call (rp_copy hb hq) rfl rfl rfl rfl (pqY)) ?_
   rintro _ _ ⟨_, ⟨o1, cR, tR, rfl, w1, rfl⟩, rfl⟩
   obtain ⟨rb, rfl⟩ := w1.some_of (by omega)
   refine WL_do rfl rfl rfl (D_alloc rfl zv81) ?_
   rintro _ _ ⟨b6, rfl, rfl⟩
   refine WL_do0 rfl rfl (D_store (vs := [_, _, _, _, _, _, _, _]) rfl Tryz.sizeOf81 rfl rfl rfl rfl rfl (plY) (Nat.le_of_ble_eq_true rfl)) ?_
   rintro _ _ rfl
   refine WL_nil (WQ_code (WC_seq (WC_region ?_)))
   refine WL_val rfl rfl rfl (R_loadA (vs := [_, _, _]) rfl ag79 rfl (mmY) rfl (atZ)) ?_
   refine WL_val rfl rfl rfl (R_fieldAddr rfl fa81_2 rfl) ?_
   refine WL_do0 rfl rfl (D_store (vs := [_, _, _]) rfl Tryz.sizeOf79 rfl rfl rfl rfl rfl (plY) (Nat.le_of_ble_eq_true rfl)) ?_
   rintro _ _ rfl
   refine WL_nil (WQ_code (WC_seq (WC_region ?_)))
   refine WL_val rfl rfl rfl (R_fieldAddr rfl fa81_3 rfl) ?_
   refine WL_val rfl rfl rfl (R_load rfl sc34 rfl (mmY) rfl) ?_
   refine WLa rfl ?_
   refine WL_val rfl rfl rfl (R_indexAddrN rfl Tryz.underlying34 Tryz.sizeOf3 rfl rfl (by omega)) ?_
   refine WL_do0 rfl rfl (D_store (vs := [_]) rfl Tryz.sizeOf3 rfl rfl rfl rfl rfl (plY) (by exact fm_room0 encI1 (show j < z.R.length by omega) (j := 0) (by omega))) ?_
   rintro _ _ rfl
   have hput : putAt (ivs z.R ++ tR) (0 + j * 1) [.int .i64 1] = ivs (z.R.set j 1) ++ tR := fm_put0 encI1 1 hu9 (j := 0) (vs := [.int .i64 1]) (by simp) rfl (tl := tR)
   rw [hput, ← e]
   refine WL_nil (WQ_code (WC_seq (WC_region ?_)))
   refine WL_val rfl rfl rfl (R_loadA (vs := [_, _, _, _, _, _, _, _]) rfl ag81 rfl (mmY) rfl (atZ)) ?_
   refine WLa rfl ?_
   refine WL_do0 rfl rfl (D_store (vs := [_, _, _, _, _, _, _, _]) rfl Tryz.sizeOf81 rfl rfl rfl rfl rfl (plY) (Nat.le_of_ble_eq_true rfl)) ?_
   rintro _ _ rfl
   refine WLa rfl (WLa rfl (WL_nil (WQ_code (WC_ret ?_))))
   refine WQ_ret rfl rfl (.cons (.cell (vs := [_, _, _, _, _, _, _, _]) rfl ag81 (mmY) rfl (atZ)) (.cons (.tmp rfl) (.cons (.tmp rfl) .nil))) rfl (by
     exact ⟨{ q with l := r2, orr := some rb, cr := cR, tr := tR }, rfl, rfl, ⟨hq.al, hq.wl, hq.wo, hq.rd, hq.od, hr2, own_sm w1 e⟩⟩) (pqY)
  ·have hst : z.sig n g dir = z := by unfold PoS.sig; rw [hsg, if_neg h1]
   have h2 := wakeR_zero _ h1
   rw [hst, hsg, h2]
   refine Spec.of (E := [(0, rpV z q), (1, .agg #[.int .i64 n, .int .i64 g]), (2, .int .i64 dir)]) Tryz.func66 rfl (by kernel_rfl) Tryz.ntmps66 rfl rfl (fun w => ?_)
   refine WC_seq (WC_region ?_)
   refine WL_do rfl rfl rfl (D_box (cs := [_, _, _, _, _, _, _, _]) rfl rfl rfl) ?_
   rintro _ _ ⟨b1, rfl, rfl⟩
   refine WL_do rfl rfl rfl (D_box (cs := [_, _]) rfl rfl rfl) ?_
   rintro _ _ ⟨b2, rfl, rfl⟩
   refine WL_do rfl rfl rfl (D_alloc rfl zv81) ?_
   rintro _ _ ⟨b3, rfl, rfl⟩
   refine WLa rfl (WLa rfl (WL_nil (WQ_code (WC_seq (WC_region ?_)))))
   refine WL_val rfl rfl rfl (R_loadA (vs := [_, _, _, _, _, _, _, _]) rfl ag81 rfl (mmY) rfl (atZ)) ?_
   refine WL_val rfl rfl rfl (R_loadA (vs := [_, _]) rfl ag30 rfl (mmY) rfl (atZ)) ?_
   refine WLa rfl ?_
   refine WL_do rfl rfl rfl (D_call (rp_spot hb hq n g dir) rfl rfl rfl rfl (pqY)) ?_
   rintro _ _ ⟨_, ⟨rfl, rfl⟩, rfl⟩
   rw [hsp]
   refine WLa rfl (WLa rfl (WLa rfl ?_))
   refine WL_do rfl rfl rfl (D_alloc rfl zv108) ?_
   rintro _ _ ⟨b4, rfl, rfl⟩
   refine WL_do0 rfl rfl (D_store (vs := [_, _]) rfl Tryz.sizeOf108 rfl rfl rfl rfl rfl (plY) (Nat.le_of_ble_eq_true rfl)) ?_
   rintro _ _ rfl
   refine WLa rfl (WL_nil (WQ_code (WC_seq (WC_seq (WC_region (WLa rfl ?_))))))
   refine WL_val rfl rfl rfl (R_neq rfl rfl rfl) ?_
   refine WL_set (s := 22) (v := .bool false) rfl (by exact congrArg Value.bool (decide_eq_false (fun q => q h0))) ?_
   refine WL_nil (WQ_code ?_)
   refine WC_F rfl ?_
   refine WC_skip (WQ_code (WC_seq (WC_region ?_)))
   refine WL_val rfl rfl rfl (R_fieldAddr rfl fa81_2 rfl) ?_
   refine WL_val rfl rfl rfl (R_loadA (vs := [_, _, _]) rfl ag79 rfl (mmY) rfl (atZ)) ?_
   refine WL_val rfl rfl rfl (R_loadA (vs := [_, _]) rfl ag108 rfl (mmY) rfl (atZ)) ?_
   refine WL_do rfl rfl rfl (D_call (rf_wake_bad z.s q.l hq.l hb.hs hb.room hb.ps (n, dir) h1) rfl rfl rfl rfl (pqY)) ?_
   rintro _ _ ⟨_, ⟨rfl, rfl⟩, rfl⟩
   refine WLa rfl (WLa rfl (WLa rfl (WLa rfl ?_)))
   refine WL_do rfl rfl rfl (D_alloc rfl zv79) ?_
   rintro _ _ ⟨b5, rfl, rfl⟩
   refine WL_do0 rfl rfl (D_store (vs := [_, _, _]) rfl Tryz.sizeOf79 rfl rfl rfl rfl rfl (plY) (Nat.le_of_ble_eq_true rfl)) ?_
   rintro _ _ rfl
   refine WLa rfl (WLa rfl (WL_nil (WQ_code (WC_seq (WC_seq (WC_region (WLa rfl ?_)))))))
   refine WL_val rfl rfl rfl (R_neq rfl rfl rfl) ?_
   refine WL_nil (WQ_code ?_)
   refine WC_dT rfl (by exact h1) ?_
   refine WC_seq (WC_region ?_)
   refine WL_val rfl rfl rfl (R_loadA (vs := [_, _, _, _, _, _, _, _]) rfl ag81 rfl (mmY) rfl (atZ)) ?_
   refine WLa rfl ?_
   refine WL_do0 rfl rfl (D_store (vs := [_, _, _, _, _, _, _, _]) rfl Tryz.sizeOf81 rfl rfl rfl rfl rfl (plY) (Nat.le_of_ble_eq_true rfl)) ?_
   rintro _ _ rfl
   refine WLa rfl (WLa rfl (WL_nil (WQ_code (WC_ret ?_))))
   refine WQ_ret rfl rfl (.cons (.cell (vs := [_, _, _, _, _, _, _, _]) rfl ag81 (mmY) rfl (atZ)) (.cons (.tmp rfl) (.cons (.tmp rfl) .nil))) rfl (by
     exact ⟨q, rfl, rfl, hq⟩) (pqY)
 ·have hsg : z.sigR n g dir = (0, z.spE n g dir) := by unfold PoS.sigR; rw [if_neg h0]
  have hst : z.sig n g dir = z := by unfold PoS.sig; rw [hsg, if_neg h0]
  rw [hst, hsg]
  refine Spec.of (E := [(0, rpV z q), (1, .agg #[.int .i64 n, .int .i64 g]), (2, .int .i64 dir)]) Tryz.func66 rfl (by kernel_rfl) Tryz.ntmps66 rfl rfl (fun w => ?_)
  refine WC_seq (WC_region ?_)
  refine WL_do rfl rfl rfl (D_box (cs := [_, _, _, _, _, _, _, _]) rfl rfl rfl) ?_
  rintro _ _ ⟨b1, rfl, rfl⟩
  refine WL_do rfl rfl rfl (D_box (cs := [_, _]) rfl rfl rfl) ?_
  rintro _ _ ⟨b2, rfl, rfl⟩
  refine WL_do rfl rfl rfl (D_alloc rfl zv81) ?_
  rintro _ _ ⟨b3, rfl, rfl⟩
  refine WLa rfl (WLa rfl (WL_nil (WQ_code (WC_seq (WC_region ?_)))))
  refine WL_val rfl rfl rfl (R_loadA (vs := [_, _, _, _, _, _, _, _]) rfl ag81 rfl (mmY) rfl (atZ)) ?_
  refine WL_val rfl rfl rfl (R_loadA (vs := [_, _]) rfl ag30 rfl (mmY) rfl (atZ)) ?_
  refine WLa rfl ?_
  refine WL_do rfl rfl rfl (D_call (rp_spot hb hq n g dir) rfl rfl rfl rfl (pqY)) ?_
  rintro _ _ ⟨_, ⟨rfl, rfl⟩, rfl⟩
  refine WLa rfl (WLa rfl (WLa rfl ?_))
  refine WL_do rfl rfl rfl (D_alloc rfl zv108) ?_
  rintro _ _ ⟨b4, rfl, rfl⟩
  refine WL_do0 rfl rfl (D_store (vs := [_, _]) rfl Tryz.sizeOf108 rfl rfl rfl rfl rfl (plY) (Nat.le_of_ble_eq_true rfl)) ?_
  rintro _ _ rfl
  refine WLa rfl (WL_nil (WQ_code (WC_seq (WC_seq (WC_region (WLa rfl ?_))))))
  refine WL_val rfl rfl rfl (R_neq rfl rfl rfl) ?_
  refine WL_nil (WQ_code ?_)
  refine WC_dT rfl (by exact h0) ?_
  refine WC_seq (WC_region ?_)
  refine WL_val rfl rfl rfl (R_loadA (vs := [_, _, _, _, _, _, _, _]) rfl ag81 rfl (mmY) rfl (atZ)) ?_
  refine WLa rfl ?_
  refine WL_do0 rfl rfl (D_store (vs := [_, _, _, _, _, _, _, _]) rfl Tryz.sizeOf81 rfl rfl rfl rfl rfl (plY) (Nat.le_of_ble_eq_true rfl)) ?_
  rintro _ _ rfl
  refine WLa rfl (WLa rfl (WL_nil (WQ_code (WC_ret ?_))))
  refine WQ_ret rfl rfl (.cons (.cell (vs := [_, _, _, _, _, _, _, _]) rfl ag81 (mmY) rfl (atZ)) (.cons (.tmp rfl) (.cons (.tmp rfl) .nil))) rfl (by
    exact ⟨q, rfl, rfl, hq⟩) (pqY)
theorem rp_wait {K : Nat} {z : PoS} {q : RpM} (hb : PBase z) (hq : RpOk K z q) (i n g dir : Int) : Spec Tryz.prog 65 [rpV z q, .int .i64 i, .agg #[.int .i64 n, .int .i64 g], .int .i64 dir] (rpH z q) (fun v H' => ∃ q' : RpM, v = .tuple #[rpV (z.wait i n g dir) q', .int .i64 (z.waitE i n g dir)] ∧ H' = rpH (z.wait i n g dir) q' ∧ RpOk K (z.wait i n g dir) q') := by
 refine Spec.of (E := [(0, rpV z q), (1, .int .i64 i), (2, .agg #[.int .i64 n, .int .i64 g]), (3, .int .i64 dir)]) Tryz.func65 rfl (by kernel_rfl) Tryz.ntmps65 rfl rfl (fun w => ?_)
 refine WC_seq (WC_region ?_)
 refine WL_do rfl rfl rfl (D_box (cs := [_, _, _, _, _, _, _, _]) rfl rfl rfl) ?_
 rintro _ _ ⟨b1, rfl, rfl⟩
 refine WL_do rfl rfl rfl (D_box (cs := [_, _]) rfl rfl rfl) ?_
 rintro _ _ ⟨b2, rfl, rfl⟩
 refine WL_do rfl rfl rfl (D_alloc rfl zv81) ?_
 rintro _ _ ⟨b3, rfl, rfl⟩
 refine WLa rfl (WL_nil (WQ_code (WC_seq (WC_region ?_))))
 refine WL_val rfl rfl rfl (R_fieldAddr rfl fa81_2 rfl) ?_
 refine WL_val rfl rfl rfl (R_fieldAddr rfl fa79_0 rfl) ?_
 refine WL_val rfl rfl rfl (R_loadA (vs := [_, _]) rfl ag76 rfl (mmY) rfl (atZ)) ?_
 refine WLa rfl ?_
 refine WL_do rfl rfl rfl (D_call (rstate_ok z.s.sm z.s.qm q.l.os q.l.sc q.l.ts q.l.oq q.l.qc q.l.tq hq.l.os hq.l.oq i) rfl rfl rfl rfl (pqY)) ?_
 rintro _ _ ⟨_, ⟨rfl, rfl⟩, rfl⟩
 refine WLa rfl (WLa rfl (WLa rfl (WLa rfl (WLa rfl (WL_nil (WQ_code (WC_seq (WC_seq (WC_region (WLa rfl ?_))))))))))
 refine WL_val rfl rfl rfl (R_neq rfl rfl rfl) ?_
 refine WL_nil (WQ_code ?_)
 refine WC_dec rfl (fun c1 => ?_) (fun c1 => ?_)
 ·have e9 : z.waitE i n g dir = (stR z.s.sm i).2 := by unfold PoS.waitE; rw [if_pos c1]
  have hst : z.wait i n g dir = z := by unfold PoS.wait; rw [e9, if_neg c1]
  refine WC_seq (WC_region ?_)
  refine WL_val rfl rfl rfl (R_loadA (vs := [_, _, _, _, _, _, _, _]) rfl ag81 rfl (mmY) rfl (atZ)) ?_
  refine WLa rfl ?_
  refine WL_do0 rfl rfl (D_store (vs := [_, _, _, _, _, _, _, _]) rfl Tryz.sizeOf81 rfl rfl rfl rfl rfl (plY) (Nat.le_of_ble_eq_true rfl)) ?_
  rintro _ _ rfl
  refine WLa rfl (WL_nil (WQ_code (WC_ret ?_)))
  refine WQ_ret rfl rfl (.cons (.cell (vs := [_, _, _, _, _, _, _, _]) rfl ag81 (mmY) rfl (atZ)) (.cons (.tmp rfl) .nil)) rfl (by
    rw [hst, e9]
    exact ⟨q, rfl, rfl, hq⟩) (pqY)
 ·have k1 : (stR z.s.sm i).2 = 0 := Decidable.not_not.1 c1
  refine WC_skip (WQ_code (WC_seq (WC_region ?_)))
  refine WL_val rfl rfl rfl (R_loadA (vs := [_, _, _, _, _, _, _, _]) rfl ag81 rfl (mmY) rfl (atZ)) ?_
  refine WL_val rfl rfl rfl (R_loadA (vs := [_, _]) rfl ag30 rfl (mmY) rfl (atZ)) ?_
  refine WLa rfl ?_
  refine WL_do rfl rfl rfl (D_call (rp_spot hb hq n g dir) rfl rfl rfl rfl (pqY)) ?_
  rintro _ _ ⟨_, ⟨rfl, rfl⟩, rfl⟩
  refine WLa rfl (WLa rfl (WLa rfl ?_))
  refine WL_do rfl rfl rfl (D_alloc rfl zv108) ?_
  rintro _ _ ⟨b4, rfl, rfl⟩
  refine WL_do0 rfl rfl (D_store (vs := [_, _]) rfl Tryz.sizeOf108 rfl rfl rfl rfl rfl (plY) (Nat.le_of_ble_eq_true rfl)) ?_
  rintro _ _ rfl
  refine WLa rfl (WL_nil (WQ_code (WC_seq (WC_seq (WC_region (WLa rfl ?_))))))
  refine WL_val rfl rfl rfl (R_neq rfl rfl rfl) ?_
  refine WL_nil (WQ_code ?_)
  refine WC_dec rfl (fun c2 => ?_) (fun c2 => ?_)
  ·have e9 : z.waitE i n g dir = z.spE n g dir := by unfold PoS.waitE; rw [if_neg (fun q => q k1), if_pos c2]
   have hst : z.wait i n g dir = z := by unfold PoS.wait; rw [e9, if_neg c2]
   refine WC_seq (WC_region ?_)
   refine WL_val rfl rfl rfl (R_loadA (vs := [_, _, _, _, _, _, _, _]) rfl ag81 rfl (mmY) rfl (atZ)) ?_
   refine WLa rfl ?_
   refine WL_do0 rfl rfl (D_store (vs := [_, _, _, _, _, _, _, _]) rfl Tryz.sizeOf81 rfl rfl rfl rfl rfl (plY) (Nat.le_of_ble_eq_true rfl)) ?_
   rintro _ _ rfl
   refine WLa rfl (WL_nil (WQ_code (WC_ret ?_)))
   refine WQ_ret rfl rfl (.cons (.cell (vs := [_, _, _, _, _, _, _, _]) rfl ag81 (mmY) rfl (atZ)) (.cons (.tmp rfl) .nil)) rfl (by
     rw [hst, e9]
     exact ⟨q, rfl, rfl, hq⟩) (pqY)
  ·have k2 : z.spE n g dir = 0 := Decidable.not_not.1 c2
   have hsp := spA_ok (n := n) (spE_dir k2)
   refine WC_skip (WQ_code (WC_seq (WC_seq (WC_region (WLa rfl ?_)))))
   refine WL_val rfl rfl rfl (R_neq rfl rfl rfl) ?_
   refine WL_nil (WQ_code ?_)
   refine WC_dec rfl (fun c3 => ?_) (fun c3 => ?_)
   ·have e9 : z.waitE i n g dir = 8 := by unfold PoS.waitE; rw [if_neg (fun q => q k1), if_neg (fun q => q k2), if_pos c3]
    have hst : z.wait i n g dir = z := by unfold PoS.wait; rw [e9, if_neg (by decide)]
    refine WC_seq (WC_region ?_)
    refine WL_val rfl rfl rfl (R_loadA (vs := [_, _, _, _, _, _, _, _]) rfl ag81 rfl (mmY) rfl (atZ)) ?_
    refine WL_do0 rfl rfl (D_store (vs := [_, _, _, _, _, _, _, _]) rfl Tryz.sizeOf81 rfl rfl rfl rfl rfl (plY) (Nat.le_of_ble_eq_true rfl)) ?_
    rintro _ _ rfl
    refine WLa rfl (WL_nil (WQ_code (WC_ret ?_)))
    refine WQ_ret rfl rfl (.cons (.cell (vs := [_, _, _, _, _, _, _, _]) rfl ag81 (mmY) rfl (atZ)) (.cons (.tmp rfl) .nil)) rfl (by
      rw [hst, e9]
      exact ⟨q, rfl, rfl, hq⟩) (pqY)
   ·have k3 := c3
    refine WC_skip (WQ_code (WC_seq (WC_seq (WC_region ?_))))
    refine WL_val rfl rfl rfl (R_loadA (vs := [_, _, _, _, _, _, _, _]) rfl ag81 rfl (mmY) rfl (atZ)) ?_
    refine WL_val rfl rfl rfl (R_loadA (vs := [_, _]) rfl ag30 rfl (mmY) rfl (atZ)) ?_
    refine WLa rfl ?_
    refine WL_do rfl rfl rfl (D_call (rp_chk hb hq n g dir) rfl rfl rfl rfl (pqY)) ?_
    rintro _ _ ⟨_, ⟨rfl, rfl⟩, rfl⟩
    refine WLa rfl (WL_nil (WQ_code (WC_seq (WC_region (WLa rfl ?_)))))
    refine WL_val rfl rfl rfl (R_neq rfl rfl rfl) ?_
    refine WL_nil (WQ_code ?_)
    refine WC_dec rfl (fun c4 => ?_) (fun c4 => ?_)
    ·have e9 : z.waitE i n g dir = z.chk n g dir := by unfold PoS.waitE; rw [if_neg (fun q => q k1), if_neg (fun q => q k2), if_neg k3]
     have hst : z.wait i n g dir = z := by unfold PoS.wait; rw [e9, if_neg c4]
     refine WC_seq (WC_region ?_)
     refine WL_val rfl rfl rfl (R_loadA (vs := [_, _, _, _, _, _, _, _]) rfl ag81 rfl (mmY) rfl (atZ)) ?_
     refine WLa rfl ?_
     refine WL_do0 rfl rfl (D_store (vs := [_, _, _, _, _, _, _, _]) rfl Tryz.sizeOf81 rfl rfl rfl rfl rfl (plY) (Nat.le_of_ble_eq_true rfl)) ?_
     rintro _ _ rfl
     refine WLa rfl (WL_nil (WQ_code (WC_ret ?_)))
     refine WQ_ret rfl rfl (.cons (.cell (vs := [_, _, _, _, _, _, _, _]) rfl ag81 (mmY) rfl (atZ)) (.cons (.tmp rfl) .nil)) rfl (by
       rw [hst, e9]
       exact ⟨q, rfl, rfl, hq⟩) (pqY)
    ·have e9 : z.waitE i n g dir = 0 := by unfold PoS.waitE; rw [if_neg (fun q => q k1), if_neg (fun q => q k2), if_neg k3]; exact Decidable.not_not.1 c4
     have hst : z.wait i n g dir = { z with s := z.s.park i (n, dir) } := by unfold PoS.wait; rw [if_pos e9]
     refine WC_skip (WQ_code (WC_seq (WC_region ?_)))
     refine WL_val rfl rfl rfl (R_loadA (vs := [_, _, _, _, _, _, _, _]) rfl ag81 rfl (mmY) rfl (atZ)) ?_
     refine WL_do rfl rfl rfl (D_call (rp_copy hb hq) rfl rfl rfl rfl (pqY)) ?_
     rintro _ _ ⟨_, ⟨o1, cR, tR, rfl, w1, rfl⟩, rfl⟩
     refine WL_do rfl rfl rfl (D_alloc rfl zv81) ?_
     rintro _ _ ⟨b5, rfl, rfl⟩
     refine WL_do0 rfl rfl (D_store (vs := [_, _, _, _, _, _, _, _]) rfl Tryz.sizeOf81 rfl rfl rfl rfl rfl (plY) (Nat.le_of_ble_eq_true rfl)) ?_
     rintro _ _ rfl
     refine WL_nil (WQ_code (WC_seq (WC_region ?_)))
     refine WL_val rfl rfl rfl (R_fieldAddr rfl fa81_2 rfl) ?_
     refine WL_val rfl rfl rfl (R_loadA (vs := [_, _, _]) rfl ag79 rfl (mmY) rfl (atZ)) ?_
     refine WLa rfl ?_
     refine WL_val rfl rfl rfl (R_loadA (vs := [_, _]) rfl ag108 rfl (mmY) rfl (atZ)) ?_
     refine WL_do rfl rfl rfl (D_call (rf_park z.s q.l hq.l hb.hs hb.room hb.ps i (PoS.spA n dir)) rfl rfl rfl rfl (pqY)) ?_
     rintro _ _ ⟨_, ⟨r2, rfl, rfl, hr2⟩, rfl⟩
     rw [hsp] at hr2 ⊢
     refine WLa rfl (WLa rfl (WLa rfl ?_))
     refine WL_val rfl rfl rfl (R_fieldAddr rfl fa81_2 rfl) ?_
     refine WL_do0 rfl rfl (D_store (vs := [_, _, _]) rfl Tryz.sizeOf79 rfl rfl rfl rfl rfl (plY) (Nat.le_of_ble_eq_true rfl)) ?_
     rintro _ _ rfl
     refine WL_nil (WQ_code (WC_seq (WC_region ?_)))
     refine WL_val rfl rfl rfl (R_loadA (vs := [_, _, _, _, _, _, _, _]) rfl ag81 rfl (mmY) rfl (atZ)) ?_
     refine WL_do0 rfl rfl (D_store (vs := [_, _, _, _, _, _, _, _]) rfl Tryz.sizeOf81 rfl rfl rfl rfl rfl (plY) (Nat.le_of_ble_eq_true rfl)) ?_
     rintro _ _ rfl
     refine WLa rfl (WL_nil (WQ_code (WC_ret ?_)))
     refine WQ_ret rfl rfl (.cons (.cell (vs := [_, _, _, _, _, _, _, _]) rfl ag81 (mmY) rfl (atZ)) (.cons (.tmp rfl) .nil)) rfl (by
       rw [hst, e9]
       exact ⟨{ q with l := r2, orr := o1, cr := cR, tr := tR }, rfl, rfl, ⟨hq.al, hq.wl, hq.wo, hq.rd, hq.od, hr2, w1⟩⟩) (pqY)
end Go.Proofs.YtbkdebnkoidicaaGreat
end
section
set_option linter.unusedVariables false
set_option maxRecDepth 20000
set_option maxHeartbeats 4000000
namespace Go.Proofs.YtbkdebnkoidicaaGreat
theorem RpOk.mono {K M : Nat} {z : PoS} {q : RpM} (h : RpOk K z q) (hm : K ≤ M) : RpOk M z q := ⟨h.al, Nat.le_trans h.wl hm, h.wo, h.rd, h.od, h.l, h.ro⟩
theorem spot_0 {z : PoS} (hl : z.T.length = 128) {n g dir : Int} (h : z.spE n g dir = 0) : spotE n dir = 0 := by
 have hd := spE_dir h
 rw [spE_ok z hd] at h
 obtain ⟨j, x, _, rfl, hx, _, _⟩ := getT_open h
 have hj : j < 128 := by rw [← hl]; exact (List.getElem?_eq_some_iff.1 hx).1
 unfold spotE; rw [if_pos ⟨by omega, by omega, hd⟩]
theorem setF_0 (f : Nat → Nat) {n dir : Int} (h : spotE n dir = 0) (k : Nat) : Dr.setF f n dir k = updF f (plS (n, dir)) k := by unfold Dr.setF; rw [if_pos h]; rfl
theorem getT_file {T : List Slt.Pl} (hl : T.length = 128) {n g : Int} (h : (getT T n g).2 = 0) : fileE n = 0 := by
 obtain ⟨j, x, _, rfl, hx, _, _⟩ := getT_open h
 have hj : j < 128 := by rw [← hl]; exact (List.getElem?_eq_some_iff.1 hx).1
 unfold fileE; rw [if_pos ⟨by omega, by omega⟩]
theorem clearF_0 (f : Nat → Nat) {n : Int} (h : fileE n = 0) : Dr.clearF f n = clrF f n.toNat 2 := by unfold Dr.clearF; rw [if_pos h]
theorem clsT_len (T : List Slt.Pl) (n g : Int) : (clsT T n g).length = T.length := by unfold clsT; split <;> simp
theorem PBase.upd {z : PoS} (h : PBase z) (i k : Nat) (hk : k ≤ 18446744073709551615) : PBase { z with f := updF z.f i k } := ⟨h.tl, h.ps, h.hs, h.room, h.rl, h.nw, fun j hj => by
 show updF z.f i k j ≤ _
 unfold updF; split
 ·exact hk
 ·exact h.fle j hj, h.pos⟩
theorem PBase.cls {z : PoS} (h : PBase z) (n g : Int) : PBase ({ z with T := clsT z.T n g, f := clrF z.f n.toNat 2 } : PoS) := ⟨(clsT_len _ _ _).trans h.tl, h.ps, h.hs, h.room, h.rl, h.nw, fun j hj => by
 show clrF z.f n.toNat 2 j ≤ _
 rw [clrF_two]; split
 ·exact Nat.le_refl _
 ·exact h.fle j hj, h.pos⟩
theorem rp_open {K : Nat} {z : PoS} {q : RpM} (hb : PBase z) (hq : RpOk K z q) (hK : K ≤ 900) (v0 : Int) : Spec Tryz.prog 62 [rpV z q, .int .i64 v0] (rpH z q) (fun v H' => ∃ q' : RpM, v = .tuple #[rpV (z.openE v0) q', .agg #[.int .i64 (opnR z.T).1.1, .int .i64 (opnR z.T).1.2], .int .i64 (opnR z.T).2] ∧ H' = rpH (z.openE v0) q' ∧ RpOk (K + 1) (z.openE v0) q') := by
 have hwl := hq.wl
 cases hfc : firstC z.T 0 with
 | none =>
  have hst : z.openE v0 = z := by unfold PoS.openE opnT; rw [hfc]
  have e9 : opnR z.T = ((0, 0), 7) := by unfold opnR; rw [hfc]
  rw [hst, e9]
  refine Spec.of (E := [(0, rpV z q), (1, .int .i64 v0)]) Tryz.func62 rfl (by kernel_rfl) Tryz.ntmps62 rfl rfl (fun w => ?_)
  refine WC_seq (WC_region ?_)
  refine WL_do rfl rfl rfl (D_box (cs := [_, _, _, _, _, _, _, _]) rfl rfl rfl) ?_
  rintro _ _ ⟨b1, rfl, rfl⟩
  refine WL_do rfl rfl rfl (D_alloc rfl zv81) ?_
  rintro _ _ ⟨b2, rfl, rfl⟩
  refine WL_do rfl rfl rfl (D_alloc rfl zv30) ?_
  rintro _ _ ⟨b3, rfl, rfl⟩
  refine WLa rfl (WL_nil (WQ_code (WC_seq (WC_region ?_))))
  refine WL_val rfl rfl rfl (R_fieldAddr rfl fa81_0 rfl) ?_
  refine WL_val rfl rfl rfl (R_loadA (vs := [_, _]) rfl ag71 rfl (mmY) rfl (atZ)) ?_
  refine WLa rfl ?_
  refine WL_do rfl rfl rfl (D_call (t_open_no hq.al q.ow q.cw q.tw hq.wo v0 hfc hb.tl) rfl rfl rfl rfl (pqY)) ?_
  rintro _ _ ⟨_, ⟨rfl, rfl⟩, rfl⟩
  refine WLa rfl (WLa rfl (WLa rfl (WLa rfl ?_)))
  refine WL_do rfl rfl rfl (D_alloc rfl zv71) ?_
  rintro _ _ ⟨b4, rfl, rfl⟩
  refine WL_do rfl rfl rfl (D_alloc rfl zv30) ?_
  rintro _ _ ⟨b5, rfl, rfl⟩
  refine WL_do0 rfl rfl (D_store (vs := [_, _]) rfl Tryz.sizeOf71 rfl rfl rfl rfl rfl (plY) (Nat.le_of_ble_eq_true rfl)) ?_
  rintro _ _ rfl
  refine WL_do0 rfl rfl (D_store (vs := [_, _]) rfl Tryz.sizeOf30 rfl rfl rfl rfl rfl (plY) (Nat.le_of_ble_eq_true rfl)) ?_
  rintro _ _ rfl
  refine WLa rfl (WL_nil (WQ_code (WC_seq (WC_seq (WC_region (WLa rfl ?_))))))
  refine WL_val rfl rfl rfl (R_neq rfl rfl rfl) ?_
  refine WL_nil (WQ_code ?_)
  refine WC_dT rfl (by decide) ?_
  refine WC_seq (WC_region ?_)
  refine WL_val rfl rfl rfl (R_loadA (vs := [_, _, _, _, _, _, _, _]) rfl ag81 rfl (mmY) rfl (atZ)) ?_
  refine WL_val rfl rfl rfl (R_build rfl zv30 pl30 rfl rfl) ?_
  refine WLa rfl ?_
  refine WL_do0 rfl rfl (D_store (vs := [_, _, _, _, _, _, _, _]) rfl Tryz.sizeOf81 rfl rfl rfl rfl rfl (plY) (Nat.le_of_ble_eq_true rfl)) ?_
  rintro _ _ rfl
  refine WL_do0 rfl rfl (D_store (vs := [_, _]) rfl Tryz.sizeOf30 rfl rfl rfl rfl rfl (plY) (Nat.le_of_ble_eq_true rfl)) ?_
  rintro _ _ rfl
  refine WLa rfl (WL_nil (WQ_code (WC_ret ?_)))
  refine WQ_ret rfl rfl (.cons (.cell (vs := [_, _, _, _, _, _, _, _]) rfl ag81 (mmY) rfl (atZ)) (.cons (.cell (vs := [_, _]) rfl ag30 (mmY) rfl (atZ)) (.cons (.tmp rfl) .nil))) rfl (by
    exact ⟨q, rfl, rfl, hq.mono (Nat.le_succ K)⟩) (pqY)
 | some x9 =>
  obtain ⟨i, x⟩ := x9
  have e9 : opnR z.T = (((i : Int), x.given), 0) := by unfold opnR; rw [hfc]
  rw [e9]
  refine Spec.of (E := [(0, rpV z q), (1, .int .i64 v0)]) Tryz.func62 rfl (by kernel_rfl) Tryz.ntmps62 rfl rfl (fun w => ?_)
  refine WC_seq (WC_region ?_)
  refine WL_do rfl rfl rfl (D_box (cs := [_, _, _, _, _, _, _, _]) rfl rfl rfl) ?_
  rintro _ _ ⟨b1, rfl, rfl⟩
  refine WL_do rfl rfl rfl (D_alloc rfl zv81) ?_
  rintro _ _ ⟨b2, rfl, rfl⟩
  refine WL_do rfl rfl rfl (D_alloc rfl zv30) ?_
  rintro _ _ ⟨b3, rfl, rfl⟩
  refine WLa rfl (WL_nil (WQ_code (WC_seq (WC_region ?_))))
  refine WL_val rfl rfl rfl (R_fieldAddr rfl fa81_0 rfl) ?_
  refine WL_val rfl rfl rfl (R_loadA (vs := [_, _]) rfl ag71 rfl (mmY) rfl (atZ)) ?_
  refine WLa rfl ?_
  refine WL_do rfl rfl rfl (D_call (t_open hq.al q.ow q.cw q.tw hq.wo v0 hfc hb.tl (by omega)) rfl rfl rfl rfl (pqY)) ?_
  rintro _ _ ⟨_, ⟨W2, oW, cW, tW, rfl, rfl, wW, al2, wl2⟩, rfl⟩
  refine WLa rfl (WLa rfl (WLa rfl (WLa rfl ?_)))
  refine WL_do rfl rfl rfl (D_alloc rfl zv71) ?_
  rintro _ _ ⟨b4, rfl, rfl⟩
  refine WL_do rfl rfl rfl (D_alloc rfl zv30) ?_
  rintro _ _ ⟨b5, rfl, rfl⟩
  refine WL_do0 rfl rfl (D_store (vs := [_, _]) rfl Tryz.sizeOf71 rfl rfl rfl rfl rfl (plY) (Nat.le_of_ble_eq_true rfl)) ?_
  rintro _ _ rfl
  refine WL_do0 rfl rfl (D_store (vs := [_, _]) rfl Tryz.sizeOf30 rfl rfl rfl rfl rfl (plY) (Nat.le_of_ble_eq_true rfl)) ?_
  rintro _ _ rfl
  refine WLa rfl (WL_nil (WQ_code (WC_seq (WC_seq (WC_region (WLa rfl ?_))))))
  refine WL_val rfl rfl rfl (R_neq rfl rfl rfl) ?_
  refine WL_nil (WQ_code ?_)
  refine WC_dF rfl (by decide) ?_
  refine WC_skip (WQ_code (WC_seq (WC_region ?_)))
  refine WL_val rfl rfl rfl (R_loadA (vs := [_, _, _, _, _, _, _, _]) rfl ag81 rfl (mmY) rfl (atZ)) ?_
  refine WL_do rfl rfl rfl (D_call (rp_copy hb hq) rfl rfl rfl rfl (pqY)) ?_
  rintro _ _ ⟨_, ⟨o1, cR, tR, rfl, w1, rfl⟩, rfl⟩
  refine WL_do rfl rfl rfl (D_alloc rfl zv81) ?_
  rintro _ _ ⟨b6, rfl, rfl⟩
  refine WL_do0 rfl rfl (D_store (vs := [_, _, _, _, _, _, _, _]) rfl Tryz.sizeOf81 rfl rfl rfl rfl rfl (plY) (Nat.le_of_ble_eq_true rfl)) ?_
  rintro _ _ rfl
  refine WL_nil (WQ_code (WC_seq (WC_region ?_)))
  refine WL_val rfl rfl rfl (R_loadA (vs := [_, _]) rfl ag71 rfl (mmY) rfl (atZ)) ?_
  refine WL_val rfl rfl rfl (R_fieldAddr rfl fa81_0 rfl) ?_
  refine WL_do0 rfl rfl (D_store (vs := [_, _]) rfl Tryz.sizeOf71 rfl rfl rfl rfl rfl (plY) (Nat.le_of_ble_eq_true rfl)) ?_
  rintro _ _ rfl
  refine WL_nil (WQ_code (WC_seq ?_))
  refine WC_drawR [⟨some b2, _⟩, ⟨some b3, _⟩] [(0, true), (1, true), (2, false), (3, false), (4, true)] followsMixed rfl rfl (by kernel_rfl) (pqY) ?_
  refine WM_val rfl rfl rfl rfl (R_loadA (vs := [_, _, _, _, _, _, _, _]) rfl ag81 rfl (mmY) rfl (atZ)) ?_
  refine WM_val rfl rfl rfl rfl (R_loadA (vs := [_, _]) rfl ag30 rfl (mmY) rfl (atZ)) ?_
  refine WM_do0 rfl rfl rfl (D_store (vs := [_, _, _, _, _, _, _, _]) rfl Tryz.sizeOf81 rfl rfl rfl rfl rfl (plY) (Nat.le_of_ble_eq_true rfl)) ?_
  rintro _ _ rfl
  refine ⟨⟨_, pqY⟩, ?_⟩
  refine WM_do0 rfl rfl rfl (D_store (vs := [_, _]) rfl Tryz.sizeOf30 rfl rfl rfl rfl rfl (plY) (Nat.le_of_ble_eq_true rfl)) ?_
  rintro _ _ rfl
  refine ⟨⟨_, pqY⟩, ?_⟩
  refine WMa rfl (WM_nil (WQ_code (WC_ret ?_)))
  refine WQ_ret rfl rfl (.cons (.cell (vs := [_, _, _, _, _, _, _, _]) rfl ag81 (mmY) rfl (atZ)) (.cons (.cell (vs := [_, _]) rfl ag30 (mmY) rfl (atZ)) (.cons (.tmp rfl) .nil))) rfl (by
    exact ⟨{ q with W := W2, ow := oW, cw := cW, tw := tW, orr := o1, cr := cR, tr := tR }, rfl, rfl, ⟨al2, (show W2.length ≤ K + 1 by omega), wW, hq.rd, hq.od, hq.l, w1⟩⟩) (pqY)
theorem rp_dead {K : Nat} {z : PoS} {q : RpM} (hb : PBase z) (hq : RpOk K z q) (n g dir : Int) (k : Nat) (hk : k ≤ 18446744073709551615) : Spec Tryz.prog 64 [rpV z q, .agg #[.int .i64 n, .int .i64 g], .int .i64 dir, .int .u64 (k : Int)] (rpH z q) (fun v H' => ∃ (q' : RpM) (ob : Option Nat) (c : Nat) (tl : List Value), v = .tuple #[rpV (z.dead n g dir k) q', slV ob (z.deadL n g dir k).length c, .int .i64 (z.spE n g dir)] ∧ Own ob (z.deadL n g dir k).length c 1 (ivs (z.deadL n g dir k)) tl ∧ H' = ⟨ob, cl (ivs (z.deadL n g dir k) ++ tl) 3⟩ :: rpH (z.dead n g dir k) q' ∧ RpOk K (z.dead n g dir k) q') := by
 by_cases h0 : z.spE n g dir = 0
 ·have hsp := spA_ok (n := n) (spE_dir h0)
  have hs0 := spot_0 hb.tl h0
  rw [h0]
  refine Spec.of (E := [(0, rpV z q), (1, .agg #[.int .i64 n, .int .i64 g]), (2, .int .i64 dir), (3, .int .u64 (k : Int))]) Tryz.func64 rfl (by kernel_rfl) Tryz.ntmps64 rfl rfl (fun w => ?_)
  refine WC_seq (WC_region ?_)
  refine WL_do rfl rfl rfl (D_box (cs := [_, _, _, _, _, _, _, _]) rfl rfl rfl) ?_
  rintro _ _ ⟨b1, rfl, rfl⟩
  refine WL_do rfl rfl rfl (D_box (cs := [_, _]) rfl rfl rfl) ?_
  rintro _ _ ⟨b2, rfl, rfl⟩
  refine WL_do rfl rfl rfl (D_alloc rfl zv81) ?_
  rintro _ _ ⟨b3, rfl, rfl⟩
  refine WLa rfl (WLa rfl (WL_nil (WQ_code (WC_seq (WC_region ?_)))))
  refine WL_val rfl rfl rfl (R_loadA (vs := [_, _, _, _, _, _, _, _]) rfl ag81 rfl (mmY) rfl (atZ)) ?_
  refine WL_val rfl rfl rfl (R_loadA (vs := [_, _]) rfl ag30 rfl (mmY) rfl (atZ)) ?_
  refine WLa rfl ?_
  refine WL_do rfl rfl rfl (D_call (rp_spot hb hq n g dir) rfl rfl rfl rfl (pqY)) ?_
  rintro _ _ ⟨_, ⟨rfl, rfl⟩, rfl⟩
  rw [hsp]
  refine WLa rfl (WLa rfl (WLa rfl ?_))
  refine WL_do rfl rfl rfl (D_alloc rfl zv108) ?_
  rintro _ _ ⟨b4, rfl, rfl⟩
  refine WL_do0 rfl rfl (D_store (vs := [_, _]) rfl Tryz.sizeOf108 rfl rfl rfl rfl rfl (plY) (Nat.le_of_ble_eq_true rfl)) ?_
  rintro _ _ rfl
  refine WLa rfl (WL_nil (WQ_code (WC_seq (WC_seq (WC_region (WLa rfl ?_))))))
  refine WL_val rfl rfl rfl (R_neq rfl rfl rfl) ?_
  refine WL_set (s := 26) (v := .bool false) rfl (by exact congrArg Value.bool (decide_eq_false (fun q => q h0))) ?_
  refine WL_nil (WQ_code ?_)
  refine WC_F rfl ?_
  refine WC_skip (WQ_code (WC_seq (WC_region ?_)))
  refine WL_val rfl rfl rfl (R_loadA (vs := [_, _, _, _, _, _, _, _]) rfl ag81 rfl (mmY) rfl (atZ)) ?_
  refine WL_do rfl rfl rfl (D_call (rp_copy hb hq) rfl rfl rfl rfl (pqY)) ?_
  rintro _ _ ⟨_, ⟨o1, cR, tR, rfl, w1, rfl⟩, rfl⟩
  refine WL_do rfl rfl rfl (D_alloc rfl zv81) ?_
  rintro _ _ ⟨b5, rfl, rfl⟩
  refine WL_do0 rfl rfl (D_store (vs := [_, _, _, _, _, _, _, _]) rfl Tryz.sizeOf81 rfl rfl rfl rfl rfl (plY) (Nat.le_of_ble_eq_true rfl)) ?_
  rintro _ _ rfl
  refine WL_nil (WQ_code (WC_seq (WC_region ?_)))
  refine WL_val rfl rfl rfl (R_fieldAddr rfl fa81_1 rfl) ?_
  refine WL_val rfl rfl rfl (R_loadA (vs := [_, _]) rfl ag74 rfl (mmY) rfl (atZ)) ?_
  refine WL_val rfl rfl rfl (R_loadA (vs := [_, _]) rfl ag108 rfl (mmY) rfl (atZ)) ?_
  refine WLa rfl ?_
  refine WL_do rfl rfl rfl (D_call (Dr.rset_any q.D q.od q.cd q.td hq.rd hq.od hb.nw n dir k hk) rfl rfl rfl rfl (pqY)) ?_
  rintro _ _ ⟨_, ⟨D2, oD, cD, tD, rfl, wD, rdD, rfl⟩, rfl⟩
  rw [setF_0 z.f hs0 k] at rdD
  have hq1 : RpOk K ({ z with f := updF z.f (plS (n, dir)) k } : PoS) ({ q with D := D2, od := oD, cd := cD, td := tD, orr := o1, cr := cR, tr := tR } : RpM) := ⟨hq.al, hq.wl, hq.wo, rdD, wD, hq.l, w1⟩
  refine WLa rfl (WLa rfl (WLa rfl (WLa rfl ?_)))
  refine WL_do rfl rfl rfl (D_alloc rfl zv74) ?_
  rintro _ _ ⟨b6, rfl, rfl⟩
  refine WL_do0 rfl rfl (D_store (vs := [_, _]) rfl Tryz.sizeOf74 rfl rfl rfl rfl rfl (plY) (Nat.le_of_ble_eq_true rfl)) ?_
  rintro _ _ rfl
  refine WLa rfl (WLa rfl (WL_nil (WQ_code (WC_seq (WC_region ?_)))))
  refine WL_val rfl rfl rfl (R_loadA (vs := [_, _]) rfl ag74 rfl (mmY) rfl (atZ)) ?_
  refine WL_val rfl rfl rfl (R_fieldAddr rfl fa81_1 rfl) ?_
  refine WL_do0 rfl rfl (D_store (vs := [_, _]) rfl Tryz.sizeOf74 rfl rfl rfl rfl rfl (plY) (Nat.le_of_ble_eq_true rfl)) ?_
  rintro _ _ rfl
  refine WL_nil (WQ_code (WC_seq (WC_seq (WC_region (WLa rfl ?_)))))
  refine WL_val rfl rfl rfl (R_notD rfl rfl) ?_
  refine WL_nil (WQ_code ?_)
  refine WC_dec rfl (fun c1 => ?_) (fun c1 => ?_)
  ·have hkn : ¬ k ≤ z.now := fun h9 => c1 ⟨hs0, h9⟩
   have hst : z.dead n g dir k = ({ z with f := updF z.f (plS (n, dir)) k } : PoS) := by unfold PoS.dead; rw [if_pos h0, if_neg hkn]
   have hsl : z.deadL n g dir k = [] := by unfold PoS.deadL; rw [if_pos h0, if_neg hkn]
   rw [hst, hsl]
   refine WC_seq (WC_region ?_)
   refine WL_val rfl rfl rfl (R_loadA (vs := [_, _, _, _, _, _, _, _]) rfl ag81 rfl (mmY) rfl (atZ)) ?_
   refine WL_do0 rfl rfl (D_store (vs := [_, _, _, _, _, _, _, _]) rfl Tryz.sizeOf81 rfl rfl rfl rfl rfl (plY) (Nat.le_of_ble_eq_true rfl)) ?_
   rintro _ _ rfl
   refine WLa rfl (WLa rfl (WL_nil (WQ_code (WC_ret ?_))))
   refine WQ_none 3 ?_
   refine WQ_ret rfl rfl (.cons (.cell (vs := [_, _, _, _, _, _, _, _]) rfl ag81 (mmY) rfl (atZ)) (.cons (.tmp rfl) (.cons (.tmp rfl) .nil))) rfl (by
     exact ⟨({ q with D := D2, od := oD, cd := cD, td := tD, orr := o1, cr := cR, tr := tR } : RpM), none, 0, [], rfl, Own.empty 1, rfl, hq1⟩) (pqY)
  ·have hkn : k ≤ z.now := (Decidable.not_not.1 c1).2
   have hst : z.dead n g dir k = ({ z with f := updF z.f (plS (n, dir)) k } : PoS).all (n, dir) 2 := by unfold PoS.dead; rw [if_pos h0, if_pos hkn]
   have hsl : z.deadL n g dir k = z.s.waiting (n, dir) := by unfold PoS.deadL; rw [if_pos h0, if_pos hkn]
   rw [hst, hsl]
   refine WC_skip (WQ_code (WC_seq (WC_region ?_)))
   refine WL_val rfl rfl rfl (R_loadA (vs := [_, _, _, _, _, _, _, _]) rfl ag81 rfl (mmY) rfl (atZ)) ?_
   refine WL_val rfl rfl rfl (R_loadA (vs := [_, _]) rfl ag108 rfl (mmY) rfl (atZ)) ?_
   refine WL_do rfl rfl rfl (D_call (rp_all (hb.upd (plS (n, dir)) k hk) hq1 (n, dir) 2) rfl rfl rfl rfl (pqY)) ?_
   rintro _ _ ⟨_, ⟨q2, o2, cW2, tW2, rfl, w2, rfl, hq2⟩, rfl⟩
   refine WLa rfl (WLa rfl (WLa rfl ?_))
   refine WL_do0 rfl rfl (D_store (vs := [_, _, _, _, _, _, _, _]) rfl Tryz.sizeOf81 rfl rfl rfl rfl rfl (plY) (Nat.le_of_ble_eq_true rfl)) ?_
   rintro _ _ rfl
   refine WLa rfl (WL_nil (WQ_code (WC_seq (WC_region ?_))))
   refine WL_val rfl rfl rfl (R_loadA (vs := [_, _, _, _, _, _, _, _]) rfl ag81 rfl (mmY) rfl (atZ)) ?_
   refine WLa rfl ?_
   refine WL_do0 rfl rfl (D_store (vs := [_, _, _, _, _, _, _, _]) rfl Tryz.sizeOf81 rfl rfl rfl rfl rfl (plY) (Nat.le_of_ble_eq_true rfl)) ?_
   rintro _ _ rfl
   refine WLa rfl (WLa rfl (WL_nil (WQ_code (WC_ret ?_))))
   refine WQ_ret rfl rfl (.cons (.cell (vs := [_, _, _, _, _, _, _, _]) rfl ag81 (mmY) rfl (atZ)) (.cons (.tmp rfl) (.cons (.tmp rfl) .nil))) rfl (by
     exact ⟨q2, o2, cW2, tW2, rfl, w2, rfl, hq2⟩) (pqY)
 ·have hst : z.dead n g dir k = z := by unfold PoS.dead; rw [if_neg h0]
  have hsl : z.deadL n g dir k = [] := by unfold PoS.deadL; rw [if_neg h0]
  rw [hst, hsl]
  refine Spec.of (E := [(0, rpV z q), (1, .agg #[.int .i64 n, .int .i64 g]), (2, .int .i64 dir), (3, .int .u64 (k : Int))]) Tryz.func64 rfl (by kernel_rfl) Tryz.ntmps64 rfl rfl (fun w => ?_)
  refine WC_seq (WC_region ?_)
  refine WL_do rfl rfl rfl (D_box (cs := [_, _, _, _, _, _, _, _]) rfl rfl rfl) ?_
  rintro _ _ ⟨b1, rfl, rfl⟩
  refine WL_do rfl rfl rfl (D_box (cs := [_, _]) rfl rfl rfl) ?_
  rintro _ _ ⟨b2, rfl, rfl⟩
  refine WL_do rfl rfl rfl (D_alloc rfl zv81) ?_
  rintro _ _ ⟨b3, rfl, rfl⟩
  refine WLa rfl (WLa rfl (WL_nil (WQ_code (WC_seq (WC_region ?_)))))
  refine WL_val rfl rfl rfl (R_loadA (vs := [_, _, _, _, _, _, _, _]) rfl ag81 rfl (mmY) rfl (atZ)) ?_
  refine WL_val rfl rfl rfl (R_loadA (vs := [_, _]) rfl ag30 rfl (mmY) rfl (atZ)) ?_
  refine WLa rfl ?_
  refine WL_do rfl rfl rfl (D_call (rp_spot hb hq n g dir) rfl rfl rfl rfl (pqY)) ?_
  rintro _ _ ⟨_, ⟨rfl, rfl⟩, rfl⟩
  refine WLa rfl (WLa rfl (WLa rfl ?_))
  refine WL_do rfl rfl rfl (D_alloc rfl zv108) ?_
  rintro _ _ ⟨b4, rfl, rfl⟩
  refine WL_do0 rfl rfl (D_store (vs := [_, _]) rfl Tryz.sizeOf108 rfl rfl rfl rfl rfl (plY) (Nat.le_of_ble_eq_true rfl)) ?_
  rintro _ _ rfl
  refine WLa rfl (WL_nil (WQ_code (WC_seq (WC_seq (WC_region (WLa rfl ?_))))))
  refine WL_val rfl rfl rfl (R_neq rfl rfl rfl) ?_
  refine WL_nil (WQ_code ?_)
  refine WC_dT rfl (by exact h0) ?_
  refine WC_seq (WC_region ?_)
  refine WL_val rfl rfl rfl (R_loadA (vs := [_, _, _, _, _, _, _, _]) rfl ag81 rfl (mmY) rfl (atZ)) ?_
  refine WLa rfl ?_
  refine WL_do0 rfl rfl (D_store (vs := [_, _, _, _, _, _, _, _]) rfl Tryz.sizeOf81 rfl rfl rfl rfl rfl (plY) (Nat.le_of_ble_eq_true rfl)) ?_
  rintro _ _ rfl
  refine WLa rfl (WLa rfl (WL_nil (WQ_code (WC_ret ?_))))
  refine WQ_none 3 ?_
  refine WQ_ret rfl rfl (.cons (.cell (vs := [_, _, _, _, _, _, _, _]) rfl ag81 (mmY) rfl (atZ)) (.cons (.tmp rfl) (.cons (.tmp rfl) .nil))) rfl (by
    exact ⟨q, none, 0, [], rfl, Own.empty 1, rfl, hq⟩) (pqY)
theorem rp_close {K : Nat} {z : PoS} {q : RpM} (hb : PBase z) (hq : RpOk K z q) (hK : K ≤ 900) (n g : Int) : Spec Tryz.prog 63 [rpV z q, .agg #[.int .i64 n, .int .i64 g]] (rpH z q) (fun v H' => ∃ (q' : RpM) (ob : Option Nat) (c : Nat) (tl : List Value), v = .tuple #[rpV (z.close n g) q', slV ob (z.closeL n g).length c, .int .i64 (getT z.T n g).2] ∧ Own ob (z.closeL n g).length c 1 (ivs (z.closeL n g)) tl ∧ H' = ⟨ob, cl (ivs (z.closeL n g) ++ tl) 3⟩ :: rpH (z.close n g) q' ∧ RpOk K (z.close n g) q') := by
 have hwl := hq.wl
 by_cases h0 : (getT z.T n g).2 = 0
 ·have hfi := getT_file hb.tl h0
  have hst : z.close n g = (({ z with T := clsT z.T n g, f := clrF z.f n.toNat 2 } : PoS).all (n, 0) 3).all (n, 1) 3 := close_yes11 h0
  have hsl : z.closeL n g = ({ z with T := clsT z.T n g, f := clrF z.f n.toNat 2 } : PoS).s.waiting (n, 0) ++ (({ z with T := clsT z.T n g, f := clrF z.f n.toNat 2 } : PoS).all (n, 0) 3).s.waiting (n, 1) := by unfold PoS.closeL; rw [if_pos h0]; rfl
  have hb1 := hb.cls n g
  have hl1 := waiting_len hb1.ps (n, 0)
  have hl2 := waiting_len (hb1.all (n, 0) 3).ps (n, 1)
  rw [h0, hst, hsl]
  refine Spec.of (E := [(0, rpV z q), (1, .agg #[.int .i64 n, .int .i64 g])]) Tryz.func63 rfl (by kernel_rfl) Tryz.ntmps63 rfl rfl (fun w => ?_)
  refine WC_seq (WC_region ?_)
  refine WL_do rfl rfl rfl (D_box (cs := [_, _, _, _, _, _, _, _]) rfl rfl rfl) ?_
  rintro _ _ ⟨b1, rfl, rfl⟩
  refine WL_do rfl rfl rfl (D_box (cs := [_, _]) rfl rfl rfl) ?_
  rintro _ _ ⟨b2, rfl, rfl⟩
  refine WL_do rfl rfl rfl (D_alloc rfl zv81) ?_
  rintro _ _ ⟨b3, rfl, rfl⟩
  refine WLa rfl (WLa rfl (WL_nil (WQ_code (WC_seq (WC_region ?_)))))
  refine WL_val rfl rfl rfl (R_fieldAddr rfl fa81_0 rfl) ?_
  refine WL_val rfl rfl rfl (R_loadA (vs := [_, _]) rfl ag71 rfl (mmY) rfl (atZ)) ?_
  refine WL_val rfl rfl rfl (R_loadA (vs := [_, _]) rfl ag30 rfl (mmY) rfl (atZ)) ?_
  refine WL_do rfl rfl rfl (D_call (t_close hq.al q.ow q.cw q.tw hq.wo n g h0 (by omega)) rfl rfl rfl rfl (pqY)) ?_
  rintro _ _ ⟨_, ⟨W2, oW, cW, tW, v9, rfl, rfl, wW, al2, wl2⟩, rfl⟩
  refine WLa rfl (WLa rfl (WLa rfl (WLa rfl ?_)))
  refine WL_do rfl rfl rfl (D_alloc rfl zv71) ?_
  rintro _ _ ⟨b4, rfl, rfl⟩
  refine WL_do0 rfl rfl (D_store (vs := [_, _]) rfl Tryz.sizeOf71 rfl rfl rfl rfl rfl (plY) (Nat.le_of_ble_eq_true rfl)) ?_
  rintro _ _ rfl
  refine WLa rfl (WLa rfl (WL_nil (WQ_code (WC_seq (WC_seq (WC_region (WLa rfl ?_)))))))
  refine WL_val rfl rfl rfl (R_neq rfl rfl rfl) ?_
  refine WL_nil (WQ_code ?_)
  refine WC_dF rfl (by decide) ?_
  refine WC_skip (WQ_code (WC_seq (WC_region ?_)))
  refine WL_val rfl rfl rfl (R_loadA (vs := [_, _, _, _, _, _, _, _]) rfl ag81 rfl (mmY) rfl (atZ)) ?_
  refine WL_do rfl rfl rfl (D_call (rp_copy hb hq) rfl rfl rfl rfl (pqY)) ?_
  rintro _ _ ⟨_, ⟨o1, cR, tR, rfl, w1, rfl⟩, rfl⟩
  refine WL_do rfl rfl rfl (D_alloc rfl zv81) ?_
  rintro _ _ ⟨b5, rfl, rfl⟩
  refine WL_do0 rfl rfl (D_store (vs := [_, _, _, _, _, _, _, _]) rfl Tryz.sizeOf81 rfl rfl rfl rfl rfl (plY) (Nat.le_of_ble_eq_true rfl)) ?_
  rintro _ _ rfl
  refine WL_nil (WQ_code (WC_seq (WC_region ?_)))
  refine WL_val rfl rfl rfl (R_loadA (vs := [_, _]) rfl ag71 rfl (mmY) rfl (atZ)) ?_
  refine WL_val rfl rfl rfl (R_fieldAddr rfl fa81_0 rfl) ?_
  refine WL_do0 rfl rfl (D_store (vs := [_, _]) rfl Tryz.sizeOf71 rfl rfl rfl rfl rfl (plY) (Nat.le_of_ble_eq_true rfl)) ?_
  rintro _ _ rfl
  refine WL_nil (WQ_code (WC_seq (WC_region ?_)))
  refine WL_val rfl rfl rfl (R_fieldAddr rfl fa81_1 rfl) ?_
  refine WL_val rfl rfl rfl (R_loadA (vs := [_, _]) rfl ag74 rfl (mmY) rfl (atZ)) ?_
  refine WL_val rfl rfl rfl (R_fieldAddr rfl fa30_0 rfl) ?_
  refine WL_val rfl rfl rfl (R_load rfl sc3 rfl (mmY) rfl) ?_
  refine WL_do rfl rfl rfl (D_call (Dr.rclear_any q.D q.od q.cd q.td hq.rd hq.od hb.nw n) rfl rfl rfl rfl (pqY)) ?_
  rintro _ _ ⟨_, ⟨D2, oD, cD, tD, rfl, wD, rdD, rfl⟩, rfl⟩
  rw [clearF_0 z.f hfi] at rdD
  have hq1 : RpOk K ({ z with T := clsT z.T n g, f := clrF z.f n.toNat 2 } : PoS) ({ q with W := W2, ow := oW, cw := cW, tw := tW, D := D2, od := oD, cd := cD, td := tD, orr := o1, cr := cR, tr := tR } : RpM) := ⟨al2, (show W2.length ≤ K by omega), wW, rdD, wD, hq.l, w1⟩
  refine WLa rfl (WLa rfl (WLa rfl ?_))
  refine WL_val rfl rfl rfl (R_fieldAddr rfl fa81_1 rfl) ?_
  refine WL_do0 rfl rfl (D_store (vs := [_, _]) rfl Tryz.sizeOf74 rfl rfl rfl rfl rfl (plY) (Nat.le_of_ble_eq_true rfl)) ?_
  rintro _ _ rfl
  refine WL_nil (WQ_code (WC_seq (WC_region ?_)))
  refine WL_val rfl rfl rfl (R_loadA (vs := [_, _, _, _, _, _, _, _]) rfl ag81 rfl (mmY) rfl (atZ)) ?_
  refine WL_val rfl rfl rfl (R_fieldAddr rfl fa30_0 rfl) ?_
  refine WL_val rfl rfl rfl (R_load rfl sc3 rfl (mmY) rfl) ?_
  refine WL_val rfl rfl rfl (R_build rfl zv108 pl108 rfl rfl) ?_
  refine WL_do rfl rfl rfl (D_call (rp_all hb1 hq1 (n, 0) 3) rfl rfl rfl rfl (pqY)) ?_
  rintro _ _ ⟨_, ⟨qA, oA, cA, tA, rfl, wA, rfl, hqA⟩, rfl⟩
  refine WLa rfl (WLa rfl (WLa rfl ?_))
  refine WL_do0 rfl rfl (D_store (vs := [_, _, _, _, _, _, _, _]) rfl Tryz.sizeOf81 rfl rfl rfl rfl rfl (plY) (Nat.le_of_ble_eq_true rfl)) ?_
  rintro _ _ rfl
  refine WLa rfl (WL_nil (WQ_code (WC_seq (WC_region ?_))))
  refine WL_val rfl rfl rfl (R_loadA (vs := [_, _, _, _, _, _, _, _]) rfl ag81 rfl (mmY) rfl (atZ)) ?_
  refine WL_val rfl rfl rfl (R_fieldAddr rfl fa30_0 rfl) ?_
  refine WL_val rfl rfl rfl (R_load rfl sc3 rfl (mmY) rfl) ?_
  refine WL_val rfl rfl rfl (R_build rfl zv108 pl108 rfl rfl) ?_
  refine WL_do rfl rfl rfl (D_call (rp_all (hb1.all (n, 0) 3) hqA (n, 1) 3) rfl rfl rfl rfl (pqY)) ?_
  rintro _ _ ⟨_, ⟨qB, oB, cB, tB, rfl, wB, rfl, hqB⟩, rfl⟩
  refine WLa rfl (WLa rfl (WLa rfl ?_))
  refine WL_do0 rfl rfl (D_store (vs := [_, _, _, _, _, _, _, _]) rfl Tryz.sizeOf81 rfl rfl rfl rfl rfl (plY) (Nat.le_of_ble_eq_true rfl)) ?_
  rintro _ _ rfl
  refine WL_noneC 3 ?_
  refine WLa rfl (WL_nil (WQ_code (WC_seq ?_)))
  refine WC_drawR [⟨some b3, _⟩, ⟨(none), _⟩] [(0, true), (1, true), (3, true), (2, false), (4, false), (5, false), (6, true), (7, true)] followsMixed rfl rfl (by kernel_rfl) (pqY) ?_
  refine WM_val rfl rfl rfl rfl (R_loadA (vs := [_, _, _, _, _, _, _, _]) rfl ag81 rfl (mmY) rfl (atZ)) ?_
  refine WMa rfl (WMa rfl ?_)
  refine WM_do rfl rfl rfl rfl (D_appendO rfl si34 rfl (Own.empty 1) (plY) rfl wA (mmY) (ivs_one _) (by omega) (by omega)) ?_
  rintro _ _ ⟨ob8, cap8, tl8, rfl, own8, rfl⟩
  refine ⟨⟨_, pqY⟩, ?_⟩
  rw [show 0 + (({ z with T := clsT z.T n g, f := clrF z.f n.toNat 2 } : PoS).s.waiting (n, 0)).length = (({ z with T := clsT z.T n g, f := clrF z.f n.toNat 2 } : PoS).s.waiting (n, 0)).length from Nat.zero_add _, List.nil_append] at own8 ⊢
  refine WM_do rfl rfl rfl rfl (D_appendO rfl si34 rfl own8 (plY) rfl wB (mmY) (ivs_one _) (by omega) (by omega)) ?_
  rintro _ _ ⟨ob9, cap9, tl9, rfl, own9, rfl⟩
  refine ⟨⟨_, pqY⟩, ?_⟩
  rw [show ivs (({ z with T := clsT z.T n g, f := clrF z.f n.toNat 2 } : PoS).s.waiting (n, 0)) ++ ivs ((({ z with T := clsT z.T n g, f := clrF z.f n.toNat 2 } : PoS).all (n, 0) 3).s.waiting (n, 1)) = ivs (({ z with T := clsT z.T n g, f := clrF z.f n.toNat 2 } : PoS).s.waiting (n, 0) ++ (({ z with T := clsT z.T n g, f := clrF z.f n.toNat 2 } : PoS).all (n, 0) 3).s.waiting (n, 1)) from by simp only [List.flatMap_append], show (({ z with T := clsT z.T n g, f := clrF z.f n.toNat 2 } : PoS).s.waiting (n, 0)).length + ((({ z with T := clsT z.T n g, f := clrF z.f n.toNat 2 } : PoS).all (n, 0) 3).s.waiting (n, 1)).length = (({ z with T := clsT z.T n g, f := clrF z.f n.toNat 2 } : PoS).s.waiting (n, 0) ++ (({ z with T := clsT z.T n g, f := clrF z.f n.toNat 2 } : PoS).all (n, 0) 3).s.waiting (n, 1)).length from by simp only [List.length_append]] at own9 ⊢
  refine WM_do0 rfl rfl rfl (D_store (vs := [_, _, _, _, _, _, _, _]) rfl Tryz.sizeOf81 rfl rfl rfl rfl rfl (plY) (Nat.le_of_ble_eq_true rfl)) ?_
  rintro _ _ rfl
  refine ⟨⟨_, pqY⟩, ?_⟩
  refine WMa rfl (WMa rfl (WM_nil (WQ_code (WC_ret ?_))))
  refine WQ_ret rfl rfl (.cons (.cell (vs := [_, _, _, _, _, _, _, _]) rfl ag81 (mmY) rfl (atZ)) (.cons (.tmp rfl) (.cons (.tmp rfl) .nil))) rfl (by
    exact ⟨qB, ob9, cap9, tl9, rfl, own9, rfl, hqB⟩) (pqY)
 ·have hst : z.close n g = z := by unfold PoS.close; rw [if_neg h0]
  have hsl : z.closeL n g = [] := by unfold PoS.closeL; rw [if_neg h0]
  rw [hst, hsl]
  refine Spec.of (E := [(0, rpV z q), (1, .agg #[.int .i64 n, .int .i64 g])]) Tryz.func63 rfl (by kernel_rfl) Tryz.ntmps63 rfl rfl (fun w => ?_)
  refine WC_seq (WC_region ?_)
  refine WL_do rfl rfl rfl (D_box (cs := [_, _, _, _, _, _, _, _]) rfl rfl rfl) ?_
  rintro _ _ ⟨b1, rfl, rfl⟩
  refine WL_do rfl rfl rfl (D_box (cs := [_, _]) rfl rfl rfl) ?_
  rintro _ _ ⟨b2, rfl, rfl⟩
  refine WL_do rfl rfl rfl (D_alloc rfl zv81) ?_
  rintro _ _ ⟨b3, rfl, rfl⟩
  refine WLa rfl (WLa rfl (WL_nil (WQ_code (WC_seq (WC_region ?_)))))
  refine WL_val rfl rfl rfl (R_fieldAddr rfl fa81_0 rfl) ?_
  refine WL_val rfl rfl rfl (R_loadA (vs := [_, _]) rfl ag71 rfl (mmY) rfl (atZ)) ?_
  refine WL_val rfl rfl rfl (R_loadA (vs := [_, _]) rfl ag30 rfl (mmY) rfl (atZ)) ?_
  refine WL_do rfl rfl rfl (D_call (t_close_no hq.al q.ow q.cw q.tw hq.wo n g h0) rfl rfl rfl rfl (pqY)) ?_
  rintro _ _ ⟨_, ⟨rfl, rfl⟩, rfl⟩
  refine WLa rfl (WLa rfl (WLa rfl (WLa rfl ?_)))
  refine WL_do rfl rfl rfl (D_alloc rfl zv71) ?_
  rintro _ _ ⟨b4, rfl, rfl⟩
  refine WL_do0 rfl rfl (D_store (vs := [_, _]) rfl Tryz.sizeOf71 rfl rfl rfl rfl rfl (plY) (Nat.le_of_ble_eq_true rfl)) ?_
  rintro _ _ rfl
  refine WLa rfl (WLa rfl (WL_nil (WQ_code (WC_seq (WC_seq (WC_region (WLa rfl ?_)))))))
  refine WL_val rfl rfl rfl (R_neq rfl rfl rfl) ?_
  refine WL_nil (WQ_code ?_)
  refine WC_dT rfl (by exact h0) ?_
  refine WC_seq (WC_region ?_)
  refine WL_val rfl rfl rfl (R_loadA (vs := [_, _, _, _, _, _, _, _]) rfl ag81 rfl (mmY) rfl (atZ)) ?_
  refine WLa rfl ?_
  refine WL_do0 rfl rfl (D_store (vs := [_, _, _, _, _, _, _, _]) rfl Tryz.sizeOf81 rfl rfl rfl rfl rfl (plY) (Nat.le_of_ble_eq_true rfl)) ?_
  rintro _ _ rfl
  refine WLa rfl (WLa rfl (WL_nil (WQ_code (WC_ret ?_))))
  refine WQ_none 3 ?_
  refine WQ_ret rfl rfl (.cons (.cell (vs := [_, _, _, _, _, _, _, _]) rfl ag81 (mmY) rfl (atZ)) (.cons (.tmp rfl) (.cons (.tmp rfl) .nil))) rfl (by
    exact ⟨q, none, 0, [], rfl, Own.empty 1, rfl, hq⟩) (pqY)
end Go.Proofs.YtbkdebnkoidicaaGreat
end
section
set_option linter.unusedVariables false
set_option maxRecDepth 20000
set_option maxHeartbeats 8000000
namespace Go.Proofs.YtbkdebnkoidicaaGreat
structure RaQ where
 k : Nat
 z : PoS
 q : RpM
 o : List Int
 ob : Option Nat
 c : Nat
 tl : List Value
theorem PBase.adv {z : PoS} (h : PBase z) {to : Nat} (hto : to ≤ 18446744073709551615) : PBase (z.advS to) := ⟨h.tl, h.ps, h.hs, h.room, h.rl, by
 show advN11 z.now to < _
 unfold advN11
 split
 ·rename_i he
  unfold advE11 at he
  split at he
  ·cases he
  ·omega
 ·exact h.nw, h.fle, h.pos⟩
theorem rp_adv {K : Nat} {z : PoS} {q : RpM} (hb : PBase z) (hq : RpOk K z q) (to : Nat) (hto : to ≤ 18446744073709551615) : Spec Tryz.prog 69 [rpV z q, .int .u64 (to : Int)] (rpH z q) (fun v H' => ∃ (l : List Lp) (q' : RpM) (ob : Option Nat) (c : Nat) (tl : List Value), LapR11 z.f z.now to l ∧ v = .tuple #[rpV ((z.advS to).laps l).1 q', slV ob ((z.advS to).laps l).2.length c, .int .i64 (advE11 z.now to)] ∧ Own ob ((z.advS to).laps l).2.length c 1 (ivs ((z.advS to).laps l).2) tl ∧ H' = ⟨ob, cl (ivs ((z.advS to).laps l).2 ++ tl) 3⟩ :: rpH ((z.advS to).laps l).1 q' ∧ RpOk K ((z.advS to).laps l).1 q') := by
 have hW := hb.ps.few
 have hN : Dr.advN z.now to = (z.advS to).now := rfl
 have hE : Dr.advE z.now to = advE11 z.now to := rfl
 by_cases he : advE11 z.now to = 0
 ·have hb1 := hb.adv (to := to) hto
  refine Spec.of (E := [(0, rpV z q), (1, .int .u64 (to : Int))]) Tryz.func69 rfl (by kernel_rfl) Tryz.ntmps69 rfl rfl (fun w => ?_)
  refine WC_seq (WC_region ?_)
  refine WL_do rfl rfl rfl (D_box (cs := [_, _, _, _, _, _, _, _]) rfl rfl rfl) ?_
  rintro _ _ ⟨b1, rfl, rfl⟩
  refine WL_do rfl rfl rfl (D_alloc rfl zv81) ?_
  rintro _ _ ⟨b2, rfl, rfl⟩
  refine WLa rfl (WLa rfl (WL_nil (WQ_code (WC_seq (WC_region ?_)))))
  refine WL_val rfl rfl rfl (R_fieldAddr rfl fa81_1 rfl) ?_
  refine WL_val rfl rfl rfl (R_loadA (vs := [_, _]) rfl ag74 rfl (mmY) rfl (atZ)) ?_
  refine WLa rfl ?_
  refine WL_do rfl rfl rfl (D_call (Dr.radv_any q.D q.od q.cd q.td hq.rd hq.od hb.nw to hto) rfl rfl rfl rfl (pqY)) ?_
  rintro _ _ ⟨_, ⟨l, oL, cL, tL, rfl, wL, hlap, rfl⟩, rfl⟩
  rw [hN, hE]
  have hll := Nat.le_trans wL.le wL.big
  have hlap : LapR11 z.f z.now to l := hlap
  refine WLa rfl (WLa rfl (WLa rfl (WLa rfl ?_)))
  refine WL_do rfl rfl rfl (D_alloc rfl zv74) ?_
  rintro _ _ ⟨b3, rfl, rfl⟩
  refine WL_do0 rfl rfl (D_store (vs := [_, _]) rfl Tryz.sizeOf74 rfl rfl rfl rfl rfl (plY) (Nat.le_of_ble_eq_true rfl)) ?_
  rintro _ _ rfl
  refine WLa rfl (WLa rfl (WL_nil (WQ_code (WC_seq (WC_seq (WC_region (WLa rfl ?_)))))))
  refine WL_val rfl rfl rfl (R_neq rfl rfl rfl) ?_
  refine WL_set (s := 24) (v := .bool false) rfl (by exact congrArg Value.bool (decide_eq_false (fun q => q he))) ?_
  refine WL_nil (WQ_code ?_)
  refine WC_F rfl ?_
  refine WC_skip (WQ_code (WC_seq (WC_region ?_)))
  refine WL_val rfl rfl rfl (R_loadA (vs := [_, _, _, _, _, _, _, _]) rfl ag81 rfl (mmY) rfl (atZ)) ?_
  refine WL_do rfl rfl rfl (D_call (rp_copy hb hq) rfl rfl rfl rfl (pqY)) ?_
  rintro _ _ ⟨_, ⟨o1, cR, tR, rfl, w1, rfl⟩, rfl⟩
  refine WL_do rfl rfl rfl (D_alloc rfl zv81) ?_
  rintro _ _ ⟨b4, rfl, rfl⟩
  refine WL_do0 rfl rfl (D_store (vs := [_, _, _, _, _, _, _, _]) rfl Tryz.sizeOf81 rfl rfl rfl rfl rfl (plY) (Nat.le_of_ble_eq_true rfl)) ?_
  rintro _ _ rfl
  refine WL_nil (WQ_code (WC_seq (WC_region ?_)))
  refine WL_val rfl rfl rfl (R_loadA (vs := [_, _]) rfl ag74 rfl (mmY) rfl (atZ)) ?_
  refine WL_val rfl rfl rfl (R_fieldAddr rfl fa81_1 rfl) ?_
  refine WL_do0 rfl rfl (D_store (vs := [_, _]) rfl Tryz.sizeOf74 rfl rfl rfl rfl rfl (plY) (Nat.le_of_ble_eq_true rfl)) ?_
  rintro _ _ rfl
  refine WL_nil (WQ_code (WC_seq (WC_region (WLa rfl (WL_nil (WQ_code (WC_seq (WC_seq (WC_region (WLa rfl (WL_nil (WQ_code (WC_block ?_)))))))))))))
  refine WC_none 3 ?_
  have hq1 : RpOk K (z.advS to) { q with l := q.l, orr := o1, cr := cR, tr := tR } := ⟨hq.al, hq.wl, hq.wo, hq.rd, hq.od, hq.l, w1⟩
  refine WC_loopF (G := RaQ) [11, 12, 13, 14, 31, 32, 33, 34, 35, 36, 37, 38, 39, 40, 41, 42, 43, 44, 45, 46, 47, 48, 49, 50] (fun y => y.k ≤ l.length ∧ y.z = ((z.advS to).laps (l.take y.k)).1 ∧ y.o = ((z.advS to).laps (l.take y.k)).2 ∧ PBase y.z ∧ RpOk K y.z y.q ∧ y.o.length + y.z.s.W.length ≤ 64 ∧ Own y.ob y.o.length y.c 1 (ivs y.o) y.tl) (fun y => [(12, .int .i64 (y.k : Int)), (11, slV y.ob y.o.length y.c)]) (fun y => ⟨y.ob, cl (ivs y.o ++ y.tl) 3⟩ :: ⟨some b4, cl [.int .i64 128, slV y.q.ow y.q.W.length y.q.cw, .int .u64 (y.z.now : Int), slV y.q.od y.q.D.length y.q.cd, slV y.q.l.os y.z.s.sm.length y.q.l.sc, slV y.q.l.oq y.z.s.qm.length y.q.l.qc, slV y.q.l.ow y.z.s.W.length y.q.l.wc, slV y.q.orr y.z.R.length y.q.cr] 81⟩ :: rpH y.z y.q) (fun y => l.length - y.k) (⟨0, z.advS to, { q with l := q.l, orr := o1, cr := cR, tr := tR }, [], none, 0, []⟩) (⟨Nat.zero_le _, by rw [List.take_zero]; rfl, by rw [List.take_zero]; rfl, hb1, hq1, by (show 0 + z.s.W.length ≤ _); omega, Own.empty 1⟩) leZ (pqY) ?_
  rintro y ⟨hyk, hyz, hyl, hyb, hyq, hyw, hyo⟩
  refine WC_seq (WC_seq (WC_region (WLa rfl (WLa rfl ?_))))
  refine WL_val rfl rfl rfl (R_len rfl Tryz.underlying72 rfl) ?_
  refine WL_val rfl rfl rfl (R_lss rfl rfl rfl) ?_
  refine WL_nil (WQ_code ?_)
  refine WC_dec rfl (fun c1 => ?_) (fun c1 => ?_)
  ·refine WC_skip (WQ_code (WC_seq (WC_block (WC_seq ?_))))
   refine WC_drawBR (rpH y.z y.q) [(0, .q), (1, .q), (2, .q), (3, .q), (4, .q), (5, .q), (6, .n [10]), (7, .q), (8, .q), (9, .q), (10, .b []), (11, .n []), (12, .q)] followsMixed rfl rfl (by kernel_rfl) (pqY) ?_
   obtain ⟨x, hx⟩ := exE (T := l) (i := y.k) (by omega)
   obtain ⟨wb, hwb⟩ := wL.some_of (by omega)
   rw [hwb]
   have hwk := wakes_W hyb.ps (x.fd, x.dir)
   refine WB_val rfl rfl rfl rfl (R_loadA (vs := [_, _, _, _, _, _, _, _]) rfl ag81 rfl (mmY) rfl (atZ)) ?_
   refine WB_val rfl rfl rfl rfl (R_move rfl rfl) ?_
   refine WB_val rfl rfl rfl rfl (R_move rfl rfl) ?_
   refine WB_val rfl rfl rfl rfl (R_indexAddrN rfl Tryz.underlying72 Tryz.sizeOf117 rfl rfl (by omega)) ?_
   refine WB_val rfl rfl rfl rfl (R_fieldAddr rfl fa117_0 rfl) ?_
   refine WB_val rfl rfl rfl rfl (R_loadA (vs := [.int .i64 x.fd, .int .i64 x.dir]) rfl ag108 rfl (mmY) rfl (fm_at0 encLp3 hx (j := 0) (vs := [.int .i64 x.fd, .int .i64 x.dir]) (atZ) (by simp))) ?_
   refine WB_do rfl rfl rfl rfl (.cons rfl rfl (B_alloc rfl zv81) .nil) (fun _ => D_call (rp_all hyb hyq (x.fd, x.dir) 2) rfl rfl rfl rfl (pqY)) ?_
   rintro _ _ ⟨_, ⟨q2, o2, cW, tW, rfl, w2, rfl, hq2⟩, rfl⟩
   refine ⟨⟨_, pqY⟩, ?_⟩
   refine WB_val rfl rfl rfl rfl (R_move rfl rfl) ?_
   refine WB_val rfl rfl rfl rfl (R_extract rfl rfl rfl) ?_
   refine WB_val rfl rfl rfl rfl (R_extract rfl rfl rfl) ?_
   refine WB_birth rfl rfl rfl rfl .nil (B_alloc rfl zv81) (fun b5 => ?_)
   refine WB_do0 rfl rfl rfl .nil (fun _ => D_store (vs := [_, _, _, _, _, _, _, _]) rfl Tryz.sizeOf81 rfl rfl rfl rfl rfl (plY) (Nat.le_of_ble_eq_true rfl)) ?_
   rintro _ _ rfl
   refine ⟨⟨_, pqY⟩, ?_⟩
   refine WB_val rfl rfl rfl rfl (R_assign rfl rfl) ?_
   refine WB_nil (WQ_code (WC_seq (WC_region ?_)))
   refine WL_val rfl rfl rfl (R_loadA (vs := [_, _, _, _, _, _, _, _]) rfl ag81 rfl (mmY) rfl (atZ)) ?_
   refine WL_do0 rfl rfl (D_store (vs := [_, _, _, _, _, _, _, _]) rfl Tryz.sizeOf81 rfl rfl rfl rfl rfl (plY) (Nat.le_of_ble_eq_true rfl)) ?_
   rintro _ _ rfl
   refine WL_nil (WQ_code (WC_region (WLa rfl (WLa rfl ?_))))
   refine WL_do rfl rfl rfl (D_appendO rfl si34 rfl hyo (plY) rfl w2 (mmY) (ivs_one _) (by omega) (by omega)) ?_
   rintro _ _ ⟨o5, c5, tl5, rfl, own5, rfl⟩
   rw [ivs_app, ← List.length_append] at own5 ⊢
   refine WLa rfl (WL_nil (WQ_code (WC_region (WLa rfl ?_))))
   refine WL_val rfl rfl rfl (R_add rfl rfl rfl (by omega)) ?_
   refine WLa rfl (WL_nil ?_)
   refine WQ_nextF (gg := y) (⟨y.k + 1, y.z.all (x.fd, x.dir) 2, q2, y.o ++ y.z.s.waiting (x.fd, x.dir), o5, c5, tl5⟩) (⟨by dsimp only; omega, by dsimp only; rw [tk_next hx, laps_snoc, ← hyz], by dsimp only; rw [tk_next hx, laps_snoc, ← hyz, ← hyl], hyb.all _ _, hq2, by (show (y.o ++ _).length + (y.z.s.wakeAll (x.fd, x.dir)).W.length ≤ _); rw [List.length_append]; omega, own5⟩) (by dsimp only; omega) leZ (psZ) rfl (pqY)
  ·have hkl : y.k = l.length := by omega
   have hzf : y.z = ((z.advS to).laps l).1 := by rw [hyz, hkl, List.take_length]
   have hof : y.o = ((z.advS to).laps l).2 := by rw [hyl, hkl, List.take_length]
   refine WC_exit (WQ_code (WC_seq (WC_region ?_)))
   refine WL_val rfl rfl rfl (R_loadA (vs := [_, _, _, _, _, _, _, _]) rfl ag81 rfl (mmY) rfl (atZ)) ?_
   refine WLa rfl ?_
   refine WL_do0 rfl rfl (D_store (vs := [_, _, _, _, _, _, _, _]) rfl Tryz.sizeOf81 rfl rfl rfl rfl rfl (plY) (Nat.le_of_ble_eq_true rfl)) ?_
   rintro _ _ rfl
   refine WLa rfl (WLa rfl (WL_nil (WQ_code (WC_ret ?_))))
   refine WQ_ret rfl rfl (.cons (.cell (vs := [_, _, _, _, _, _, _, _]) rfl ag81 (mmY) rfl (atZ)) (.cons (.tmp rfl) (.cons (.tmp rfl) .nil))) rfl (by
     exact ⟨l, y.q, y.ob, y.c, y.tl, hlap, by rw [← hof, ← hzf, he]; rfl, by rw [← hof]; exact hyo, by rw [← hzf, ← hof], by rw [← hzf]; exact hyq⟩) (pqY)
 ·have hst : z.advS to = z := by unfold PoS.advS advN11; rw [if_neg he]
  refine Spec.of (E := [(0, rpV z q), (1, .int .u64 (to : Int))]) Tryz.func69 rfl (by kernel_rfl) Tryz.ntmps69 rfl rfl (fun w => ?_)
  refine WC_seq (WC_region ?_)
  refine WL_do rfl rfl rfl (D_box (cs := [_, _, _, _, _, _, _, _]) rfl rfl rfl) ?_
  rintro _ _ ⟨b1, rfl, rfl⟩
  refine WL_do rfl rfl rfl (D_alloc rfl zv81) ?_
  rintro _ _ ⟨b2, rfl, rfl⟩
  refine WLa rfl (WLa rfl (WL_nil (WQ_code (WC_seq (WC_region ?_)))))
  refine WL_val rfl rfl rfl (R_fieldAddr rfl fa81_1 rfl) ?_
  refine WL_val rfl rfl rfl (R_loadA (vs := [_, _]) rfl ag74 rfl (mmY) rfl (atZ)) ?_
  refine WLa rfl ?_
  refine WL_do rfl rfl rfl (D_call (Dr.radv_any q.D q.od q.cd q.td hq.rd hq.od hb.nw to hto) rfl rfl rfl rfl (pqY)) ?_
  rintro _ _ ⟨_, ⟨l, oL, cL, tL, rfl, wL, hlap, rfl⟩, rfl⟩
  rw [hE]
  refine WLa rfl (WLa rfl (WLa rfl (WLa rfl ?_)))
  refine WL_do rfl rfl rfl (D_alloc rfl zv74) ?_
  rintro _ _ ⟨b3, rfl, rfl⟩
  refine WL_do0 rfl rfl (D_store (vs := [_, _]) rfl Tryz.sizeOf74 rfl rfl rfl rfl rfl (plY) (Nat.le_of_ble_eq_true rfl)) ?_
  rintro _ _ rfl
  refine WLa rfl (WLa rfl (WL_nil (WQ_code (WC_seq (WC_seq (WC_region (WLa rfl ?_)))))))
  refine WL_val rfl rfl rfl (R_neq rfl rfl rfl) ?_
  refine WL_nil (WQ_code ?_)
  refine WC_dT rfl (by exact he) ?_
  refine WC_seq (WC_region ?_)
  refine WL_val rfl rfl rfl (R_loadA (vs := [_, _, _, _, _, _, _, _]) rfl ag81 rfl (mmY) rfl (atZ)) ?_
  refine WLa rfl ?_
  refine WL_do0 rfl rfl (D_store (vs := [_, _, _, _, _, _, _, _]) rfl Tryz.sizeOf81 rfl rfl rfl rfl rfl (plY) (Nat.le_of_ble_eq_true rfl)) ?_
  rintro _ _ rfl
  refine WLa rfl (WLa rfl (WL_nil (WQ_code (WC_ret ?_))))
  refine WQ_none 3 ?_
  refine WQ_ret rfl rfl (.cons (.cell (vs := [_, _, _, _, _, _, _, _]) rfl ag81 (mmY) rfl (atZ)) (.cons (.tmp rfl) (.cons (.tmp rfl) .nil))) rfl (by
    exact ⟨[], q, none, 0, [], (by unfold LapR11; rw [if_neg he]), by first | (rw [hst]; done) | (rw [hst]; rfl), Own.empty 1, by first | (rw [hst]; done) | (rw [hst]; rfl), by rw [hst]; exact hq⟩) (pqY)
theorem rp_new (k now : Nat) (h1 : 1 ≤ k) (h2 : k ≤ 64) (h3 : now < 18446744073709551615) : Spec Tryz.prog 30 [.int .i64 (k : Int), .int .u64 (now : Int)] [] (fun v H' => ∃ q : RpM, v = .tuple #[rpV (newS k now) q, .int .i64 0] ∧ H' = rpH (newS k now) q ∧ RpOk 0 (newS k now) q) := by
 refine Spec.of (E := [(0, .int .i64 (k : Int)), (1, .int .u64 (now : Int))]) Tryz.func30 rfl (by kernel_rfl) Tryz.ntmps30 rfl rfl (fun w => ?_)
 refine WC_seq (WC_region ?_)
 refine WL_do rfl rfl rfl (D_alloc rfl zv81) ?_
 rintro _ _ ⟨b1, rfl, rfl⟩
 refine WLa rfl (WL_nil (WQ_code (WC_seq (WC_region ?_))))
 refine WL_do rfl rfl rfl (D_call (Slt.rnew_ok 128 (by decide) (by decide)) rfl rfl rfl rfl (pqY)) ?_
 rintro _ _ ⟨_, ⟨rfl, rfl⟩, rfl⟩
 refine WLa rfl (WLa rfl (WLa rfl ?_))
 refine WL_do rfl rfl rfl (D_alloc rfl zv71) ?_
 rintro _ _ ⟨b2, rfl, rfl⟩
 refine WL_do0 rfl rfl (D_store (vs := [_, _]) rfl Tryz.sizeOf71 rfl rfl rfl rfl rfl (plY) (Nat.le_of_ble_eq_true rfl)) ?_
 rintro _ _ rfl
 refine WLa rfl (WL_nil (WQ_code (WC_seq (WC_region (WLa rfl ?_)))))
 refine WL_do rfl rfl rfl (D_call (Dr.rnew_ok now h3) rfl rfl rfl rfl (pqY)) ?_
 rintro _ _ ⟨_, ⟨rfl, rfl⟩, rfl⟩
 refine WLa rfl (WLa rfl (WLa rfl ?_))
 refine WL_do rfl rfl rfl (D_alloc rfl zv74) ?_
 rintro _ _ ⟨b3, rfl, rfl⟩
 refine WL_do0 rfl rfl (D_store (vs := [_, _]) rfl Tryz.sizeOf74 rfl rfl rfl rfl rfl (plY) (Nat.le_of_ble_eq_true rfl)) ?_
 rintro _ _ rfl
 refine WLa rfl (WL_nil (WQ_code (WC_seq (WC_region (WLa rfl ?_)))))
 refine WL_do rfl rfl rfl (D_call (rf_new k h1 h2) rfl rfl rfl rfl (pqY)) ?_
 rintro _ _ ⟨_, ⟨r1, rfl, rfl, hr1⟩, rfl⟩
 refine WLa rfl (WLa rfl (WLa rfl ?_))
 refine WL_do rfl rfl rfl (D_alloc rfl zv79) ?_
 rintro _ _ ⟨b4, rfl, rfl⟩
 refine WL_do0 rfl rfl (D_store (vs := [_, _, _]) rfl Tryz.sizeOf79 rfl rfl rfl rfl rfl (plY) (Nat.le_of_ble_eq_true rfl)) ?_
 rintro _ _ rfl
 refine WLa rfl (WL_nil (WQ_code (WC_seq (WC_seq (WC_region (WLa rfl ?_))))))
 refine WL_val rfl rfl rfl (R_neq rfl rfl rfl) ?_
 refine WL_set (s := 27) (v := .bool false) rfl (by simp) ?_
 refine WLa rfl (WLa rfl ?_)
 refine WL_val rfl rfl rfl (R_neq rfl rfl rfl) ?_
 refine WL_set (s := 30) (v := .bool false) rfl (by simp) ?_
 refine WLa rfl (WL_nil (WQ_code ?_))
 refine WC_F rfl ?_
 refine WC_skip (WQ_code (WC_seq ?_))
 refine WC_drawR [⟨some b1, _⟩] [(0, true), (1, true), (2, true), (3, true), (4, false), (5, true), (6, false), (7, true)] followsMixed rfl rfl (by kernel_rfl) (pqY) ?_
 refine WM_val rfl rfl rfl rfl (R_loadA (vs := [_, _]) rfl ag71 rfl (mmY) rfl (atZ)) ?_
 refine WM_val rfl rfl rfl rfl (R_loadA (vs := [_, _]) rfl ag74 rfl (mmY) rfl (atZ)) ?_
 refine WM_val rfl rfl rfl rfl (R_loadA (vs := [_, _, _]) rfl ag79 rfl (mmY) rfl (atZ)) ?_
 refine WMa rfl ?_
 refine WM_do rfl rfl rfl rfl (D_make (n := k) rfl si34 rfl rfl (by omega) (by omega)) ?_
 rintro _ _ ⟨b5, rfl, rfl⟩
 refine ⟨⟨_, pqY⟩, ?_⟩
 rw [show (List.replicate k [Value.int .i64 0]).flatten = ivs (List.replicate k 0) ++ [] from by rw [List.append_nil]; exact fm_rep (enc := encI) 0 k]
 have hlr : (List.replicate k (0 : Int)).length = k := List.length_replicate
 refine WM_val rfl rfl rfl rfl (R_build rfl zv81 pl81 rfl rfl) ?_
 refine WM_do0 rfl rfl rfl (D_store (vs := [_, _, _, _, _, _, _, _]) rfl Tryz.sizeOf81 rfl rfl rfl rfl rfl (plY) (Nat.le_of_ble_eq_true rfl)) ?_
 rintro _ _ rfl
 refine ⟨⟨_, pqY⟩, ?_⟩
 refine WMa rfl (WM_nil (WQ_code (WC_ret ?_)))
 refine WQ_none 143 ?_
 refine WQ_none 117 ?_
 refine WQ_ret rfl rfl (.cons (.cell (vs := [_, _, _, _, _, _, _, _]) rfl ag81 (mmY) rfl (atZ)) (.cons (.tmp rfl) .nil)) rfl (by
   exact ⟨⟨[], none, 0, [], [], none, 0, [], r1, some b5, k, []⟩, by unfold newS; dsimp only [rpV]; first | (rw [hlr]; done) | (rw [hlr]; rfl), rfl, ⟨Slt.alike_fresh 128, Nat.le_refl 0, Own.empty 4, Dr.RD.new, Own.empty 3, hr1, own_rep b5 k h2⟩⟩) (pqY)
end Go.Proofs.YtbkdebnkoidicaaGreat
end
section
set_option linter.unusedVariables false
set_option maxRecDepth 20000
set_option maxHeartbeats 16000000
namespace Go.Proofs.YtbkdebnkoidicaaGreat
theorem same_okB (l : List Int) (o1 : Option Nat) (c1 : Nat) (t1 : List Value) (o2 : Option Nat) (c2 : Nat) (t2 : List Value) (h1 : Own o1 l.length c1 1 (ivs l) t1) (h2 : Own o2 l.length c2 1 (ivs l) t2) : Spec Tryz.prog 20 [slV o1 l.length c1, slV o2 l.length c2] [⟨o1, cl (ivs l ++ t1) 3⟩, ⟨o2, cl (ivs l ++ t2) 3⟩] (fun r H' => r = .bool true ∧ H' = [⟨o1, cl (ivs l ++ t1) 3⟩, ⟨o2, cl (ivs l ++ t2) 3⟩]) := by
 have hbig := Nat.le_trans h1.le h1.big
 refine Spec.of (E := [(0, slV o1 l.length c1), (1, slV o2 l.length c2)]) Tryz.func20 rfl (by kernel_rfl) Tryz.ntmps20 rfl rfl (fun w => ?_)
 refine WC_seq (WC_region (WLa rfl (WL_nil (WQ_code (WC_seq (WC_seq (WC_region (WLa rfl ?_))))))))
 refine WL_val rfl rfl rfl (R_len rfl Tryz.underlying34 rfl) ?_
 refine WLa rfl ?_
 refine WL_val rfl rfl rfl (R_len rfl Tryz.underlying34 rfl) ?_
 refine WL_val rfl rfl rfl (R_neq rfl rfl rfl) ?_
 refine WL_nil (WQ_code ?_)
 refine WC_dF rfl (by simp) ?_
 refine WC_skip (WQ_code (WC_seq (WC_seq (WC_region (WLa rfl (WL_nil (WQ_code (WC_block ?_))))))))
 refine WC_loopF (G := Nat) [4, 5, 11, 12, 13, 14, 15, 16, 17, 18, 19, 20, 21, 22, 23, 24, 25] (fun k => k ≤ l.length) (fun k => [(5, .int .i64 (k : Int))]) (fun k => []) (fun k => l.length - k) (0) (Nat.zero_le _) leZ (pqY) ?_
 rintro k hk
 refine WC_seq (WC_seq (WC_region (WLa rfl (WLa rfl ?_))))
 refine WL_val rfl rfl rfl (R_len rfl Tryz.underlying34 rfl) ?_
 refine WL_val rfl rfl rfl (R_lss rfl rfl rfl) ?_
 refine WL_nil (WQ_code ?_)
 refine WC_dec rfl (fun c1 => ?_) (fun c1 => ?_)
 ·refine WC_skip (WQ_code (WC_seq (WC_block (WC_seq ?_))))
  refine WC_draw _ [(0, true), (1, true), (2, true), (3, true), (4, true), (5, true), (6, true), (7, true), (8, true)] followsMixed rfl rfl (by kernel_rfl) .all ?_
  refine WMa rfl (WMa rfl ?_)
  obtain ⟨x, hx⟩ := exE (T := l) (i := k) (by omega)
  obtain ⟨wb1, rfl⟩ := h1.some_of (by omega)
  obtain ⟨wb2, rfl⟩ := h2.some_of (by omega)
  refine WM_val rfl rfl rfl rfl (R_indexAddrN rfl Tryz.underlying34 Tryz.sizeOf3 rfl rfl (by omega)) ?_
  refine WM_val rfl rfl rfl rfl (R_load (v := .int .i64 x) rfl sc3 rfl (mmY) (fm_get0 encI1 hx (j := 0) (by omega))) ?_
  refine WMa rfl (WMa rfl ?_)
  refine WM_val rfl rfl rfl rfl (R_indexAddrN rfl Tryz.underlying34 Tryz.sizeOf3 rfl rfl (by omega)) ?_
  refine WM_val rfl rfl rfl rfl (R_load (v := .int .i64 x) rfl sc3 rfl (mmY) (fm_get0 encI1 hx (j := 0) (by omega))) ?_
  refine WM_val rfl rfl rfl rfl (R_neq rfl rfl rfl) ?_
  refine WM_nil (WQ_code ?_)
  refine WC_dF rfl (by simp) ?_
  refine WC_skip (WQ_code (WC_region (WLa rfl ?_)))
  refine WL_val rfl rfl rfl (R_add rfl rfl rfl (by omega)) ?_
  refine WLa rfl (WL_nil ?_)
  refine WQ_nextF (k + 1) (by omega) (by omega) leZ (psZ) rfl (pqY)
 ·refine WC_exit (WQ_code (WC_seq (WC_region (WLa rfl (WL_nil (WQ_code (WC_ret ?_)))))))
  refine WQ_ret rfl rfl (.cons (.tmp rfl) .nil) rfl (by
    exact ⟨rfl, rfl⟩) (pqY)
theorem pdo_ok {N K : Nat} {z : PoS} {q : RpM} (m : PoM) (h : PoIs N z m) (hN : N ≤ 600000) (hq : RpOk K z q) (hK : K ≤ 900) (hz : HInv z) (a : Ac11) (ha : a.tm ≤ 18446744073709551615) : Spec Tryz.prog 31 [ptrH m.p, rpV z q, .agg #[.int .i64 a.what, .int .i64 a.value, .int .i64 a.task, .int .i64 a.n, .int .i64 a.g, .int .i64 a.dir, .int .u64 (a.tm : Int)]] (rpH z q ++ poH z m)
  (fun v H' => ∃ (z' : PoS) (m' : PoM) (q' : RpM), v = .tuple #[ptrH m'.p, rpV z' q', .bool true] ∧ H' = rpH z' q' ++ poH z' m' ∧ PoIs (N + 200) z' m' ∧ RpOk (K + 1) z' q' ∧ HInv z') := by
 have hb := h.base
 refine Spec.of (E := [(0, ptrH m.p), (1, rpV z q), (2, .agg #[.int .i64 a.what, .int .i64 a.value, .int .i64 a.task, .int .i64 a.n, .int .i64 a.g, .int .i64 a.dir, .int .u64 (a.tm : Int)])]) Tryz.func31 rfl (by kernel_rfl) Tryz.ntmps31 rfl rfl (fun w => ?_)
 refine WC_seq (WC_region ?_)
 refine WL_do rfl rfl rfl (D_box (cs := [_, _, _, _, _, _, _, _]) rfl rfl rfl) ?_
 rintro _ _ ⟨b1, rfl, rfl⟩
 refine WL_do rfl rfl rfl (D_box (cs := [_, _, _, _, _, _, _]) rfl rfl rfl) ?_
 rintro _ _ ⟨b2, rfl, rfl⟩
 refine WLa rfl ?_
 refine WL_do rfl rfl rfl (D_alloc rfl zv81) ?_
 rintro _ _ ⟨b3, rfl, rfl⟩
 refine WLa rfl (WL_nil (WQ_code (WC_seq (WC_seq (WC_region ?_)))))
 refine WL_val rfl rfl rfl (R_fieldAddr rfl fa54_0 rfl) ?_
 refine WL_val rfl rfl rfl (R_load rfl sc3 rfl (mmY) rfl) ?_
 refine WL_nil (WQ_code (WC_block (WC_seq (WC_region ?_))))
 refine WL_val rfl rfl rfl (R_eql rfl rfl rfl) ?_
 refine WLa rfl (WL_nil (WQ_code ?_))
 refine WC_dec rfl (fun c1 => ?_) (fun c1 => ?_)
 ·refine WC_seq (WC_region (WLa rfl ?_))
  refine WL_val rfl rfl rfl (R_fieldAddr rfl fa54_1 rfl) ?_
  refine WL_val rfl rfl rfl (R_load rfl sc3 rfl (mmY) rfl) ?_
  refine WL_do rfl rfl rfl (D_call (po_open m h (by omega) a.value) rfl rfl rfl rfl (pqY)) ?_
  rintro _ _ ⟨_, ⟨rfl, rfl, g2⟩, rfl⟩
  refine WLa rfl (WLa rfl (WLa rfl ?_))
  refine WL_do rfl rfl rfl (D_alloc rfl zv30) ?_
  rintro _ _ ⟨b4, rfl, rfl⟩
  refine WL_do0 rfl rfl (D_store (vs := [_, _]) rfl Tryz.sizeOf30 rfl rfl rfl rfl rfl (plY) (Nat.le_of_ble_eq_true rfl)) ?_
  rintro _ _ rfl
  refine WLa rfl (WL_nil (WQ_code (WC_seq (WC_region ?_))))
  refine WL_val rfl rfl rfl (R_loadA (vs := [_, _, _, _, _, _, _, _]) rfl ag81 rfl (mmY) rfl (atZ)) ?_
  refine WL_val rfl rfl rfl (R_fieldAddr rfl fa54_1 rfl) ?_
  refine WL_val rfl rfl rfl (R_load rfl sc3 rfl (mmY) rfl) ?_
  refine WL_do rfl rfl rfl (D_call (rp_open hb hq (by omega) a.value) rfl rfl rfl rfl (pqY)) ?_
  rintro _ _ ⟨_, ⟨q2, rfl, rfl, hq2⟩, rfl⟩
  refine WLa rfl (WLa rfl (WLa rfl (WLa rfl ?_)))
  refine WL_do rfl rfl rfl (D_alloc rfl zv81) ?_
  rintro _ _ ⟨b5, rfl, rfl⟩
  refine WL_do rfl rfl rfl (D_alloc rfl zv30) ?_
  rintro _ _ ⟨b6, rfl, rfl⟩
  refine WL_do0 rfl rfl (D_store (vs := [_, _, _, _, _, _, _, _]) rfl Tryz.sizeOf81 rfl rfl rfl rfl rfl (plY) (Nat.le_of_ble_eq_true rfl)) ?_
  rintro _ _ rfl
  refine WL_do0 rfl rfl (D_store (vs := [_, _]) rfl Tryz.sizeOf30 rfl rfl rfl rfl rfl (plY) (Nat.le_of_ble_eq_true rfl)) ?_
  rintro _ _ rfl
  refine WLa rfl (WL_nil (WQ_code (WC_seq ?_)))
  refine WC_drawR [⟨some b3, _⟩] [(0, true), (1, true), (2, true), (3, true), (4, true), (5, true), (6, true), (7, true), (8, true), (9, true), (10, true), (11, false), (12, true)] followsMixed rfl rfl (by kernel_rfl) (pqY) ?_
  refine WMa rfl ?_
  refine WM_val rfl rfl rfl rfl (R_loadA (vs := [_, _, _, _, _, _, _, _]) rfl ag81 rfl (mmY) rfl (atZ)) ?_
  refine WM_val rfl rfl rfl rfl (R_loadA (vs := [_, _]) rfl ag30 rfl (mmY) rfl (atZ)) ?_
  refine WM_val rfl rfl rfl rfl (R_loadA (vs := [_, _]) rfl ag30 rfl (mmY) rfl (atZ)) ?_
  refine WM_val rfl rfl rfl rfl (R_seq30 rfl rfl rfl rfl) ?_
  refine WM_set (s := 76) (v := .bool true) rfl (by simp) ?_
  refine WMa rfl (WMa rfl (WMa rfl ?_))
  refine WM_val rfl rfl rfl rfl (R_eql rfl rfl rfl) ?_
  refine WM_set (s := 80) (v := .bool true) rfl (by simp) ?_
  refine WMa rfl (WMa rfl ?_)
  refine WM_do0 rfl rfl rfl (D_store (vs := [_, _, _, _, _, _, _, _]) rfl Tryz.sizeOf81 rfl rfl rfl rfl rfl (plY) (Nat.le_of_ble_eq_true rfl)) ?_
  rintro _ _ rfl
  refine ⟨⟨_, pqY⟩, ?_⟩
  refine WMa rfl (WM_nil (WQ_code (WC_ret ?_)))
  refine WQ_ret rfl rfl (.cons (.tmp rfl) (.cons (.cell (vs := [_, _, _, _, _, _, _, _]) rfl ag81 (mmY) rfl (atZ)) (.cons (.tmp rfl) .nil))) rfl (by
    exact ⟨(z.openE a.value), m, q2, rfl, rfl, g2.mono (by omega), hq2, (post_open hz a.value 0 0).1.inv⟩) (pqY)
 ·refine WC_seq (WC_region ?_)
  refine WL_val rfl rfl rfl (R_eql rfl rfl rfl) ?_
  refine WLa rfl (WL_nil (WQ_code ?_))
  refine WC_dec rfl (fun c2 => ?_) (fun c2 => ?_)
  ·refine WC_seq (WC_region (WLa rfl ?_))
   refine WL_val rfl rfl rfl (R_fieldAddr rfl fa54_3 rfl) ?_
   refine WL_val rfl rfl rfl (R_loadA (vs := [_, _]) rfl ag30 rfl (mmY) rfl (atZ)) ?_
   refine WL_do rfl rfl rfl (D_call (po_close m h (by omega) a.n a.g) rfl rfl rfl rfl (pqY)) ?_
   rintro _ _ ⟨_, ⟨m2, o2, c2, t2, rfl, w2, rfl, p2, g2⟩, rfl⟩
   rw [← p2]
   refine WLa rfl (WLa rfl (WLa rfl (WLa rfl (WLa rfl (WL_nil (WQ_code (WC_seq (WC_region ?_))))))))
   refine WL_val rfl rfl rfl (R_loadA (vs := [_, _, _, _, _, _, _, _]) rfl ag81 rfl (mmY) rfl (atZ)) ?_
   refine WL_val rfl rfl rfl (R_fieldAddr rfl fa54_3 rfl) ?_
   refine WL_val rfl rfl rfl (R_loadA (vs := [_, _]) rfl ag30 rfl (mmY) rfl (atZ)) ?_
   refine WL_do rfl rfl rfl (D_call (rp_close hb hq (by omega) a.n a.g) rfl rfl rfl rfl (pqY)) ?_
   rintro _ _ ⟨_, ⟨q2, o3, c3, t3, rfl, w3, rfl, hq2⟩, rfl⟩
   refine WLa rfl (WLa rfl (WLa rfl (WLa rfl ?_)))
   refine WL_do rfl rfl rfl (D_alloc rfl zv81) ?_
   rintro _ _ ⟨b7, rfl, rfl⟩
   refine WL_do0 rfl rfl (D_store (vs := [_, _, _, _, _, _, _, _]) rfl Tryz.sizeOf81 rfl rfl rfl rfl rfl (plY) (Nat.le_of_ble_eq_true rfl)) ?_
   rintro _ _ rfl
   refine WLa rfl (WLa rfl (WL_nil (WQ_code (WC_seq ?_))))
   refine WC_drawR [⟨some b3, _⟩] [(0, true), (1, true), (2, true), (3, true), (4, true), (5, true), (6, true), (7, true), (8, true), (9, true), (10, true), (11, false), (12, true)] followsMixed rfl rfl (by kernel_rfl) (pqY) ?_
   refine WMa rfl ?_
   refine WM_val rfl rfl rfl rfl (R_loadA (vs := [_, _, _, _, _, _, _, _]) rfl ag81 rfl (mmY) rfl (atZ)) ?_
   refine WMa rfl (WMa rfl ?_)
   refine WM_call rfl (Spec.quiet (same_okB (z.closeL a.n a.g) o2 c2 t2 o3 c3 t3 w2 w3)) rfl rfl rfl rfl rfl rfl rfl (pqY) ?_
   refine WMa rfl (WMa rfl (WMa rfl ?_))
   refine WM_val rfl rfl rfl rfl (R_eql rfl rfl rfl) ?_
   refine WM_set (s := 107) (v := .bool true) rfl (by simp) ?_
   refine WMa rfl (WMa rfl ?_)
   refine WM_do0 rfl rfl rfl (D_store (vs := [_, _, _, _, _, _, _, _]) rfl Tryz.sizeOf81 rfl rfl rfl rfl rfl (plY) (Nat.le_of_ble_eq_true rfl)) ?_
   rintro _ _ rfl
   refine ⟨⟨_, pqY⟩, ?_⟩
   refine WMa rfl (WM_nil (WQ_code (WC_ret ?_)))
   refine WQ_ret rfl rfl (.cons (.tmp rfl) (.cons (.cell (vs := [_, _, _, _, _, _, _, _]) rfl ag81 (mmY) rfl (atZ)) (.cons (.tmp rfl) .nil))) rfl (by
     exact ⟨(z.close a.n a.g), m2, q2, rfl, rfl, g2.mono (by omega), hq2.mono (Nat.le_succ K), (post_close hz h.tb.len a.n a.g).inv⟩) (pqY)
  ·refine WC_seq (WC_region ?_)
   refine WL_val rfl rfl rfl (R_eql rfl rfl rfl) ?_
   refine WLa rfl (WL_nil (WQ_code ?_))
   refine WC_dec rfl (fun c3 => ?_) (fun c3 => ?_)
   ·refine WC_seq (WC_region (WLa rfl ?_))
    refine WL_val rfl rfl rfl (R_fieldAddr rfl fa54_3 rfl) ?_
    refine WL_val rfl rfl rfl (R_loadA (vs := [_, _]) rfl ag30 rfl (mmY) rfl (atZ)) ?_
    refine WL_val rfl rfl rfl (R_fieldAddr rfl fa54_4 rfl) ?_
    refine WL_val rfl rfl rfl (R_load rfl sc44 rfl (mmY) rfl) ?_
    refine WL_val rfl rfl rfl (R_fieldAddr rfl fa54_5 rfl) ?_
    refine WL_val rfl rfl rfl (R_load rfl sc28 rfl (mmY) rfl) ?_
    refine WL_do rfl rfl rfl (D_call (po_dead m h (by omega) a.n a.g a.dir a.tm ha) rfl rfl rfl rfl (pqY)) ?_
    rintro _ _ ⟨_, ⟨m2, o2, c2, t2, rfl, w2, rfl, p2, g2⟩, rfl⟩
    rw [← p2]
    refine WLa rfl (WLa rfl (WLa rfl (WLa rfl (WLa rfl (WL_nil (WQ_code (WC_seq (WC_region ?_))))))))
    refine WL_val rfl rfl rfl (R_loadA (vs := [_, _, _, _, _, _, _, _]) rfl ag81 rfl (mmY) rfl (atZ)) ?_
    refine WL_val rfl rfl rfl (R_fieldAddr rfl fa54_3 rfl) ?_
    refine WL_val rfl rfl rfl (R_loadA (vs := [_, _]) rfl ag30 rfl (mmY) rfl (atZ)) ?_
    refine WL_val rfl rfl rfl (R_fieldAddr rfl fa54_4 rfl) ?_
    refine WL_val rfl rfl rfl (R_load rfl sc44 rfl (mmY) rfl) ?_
    refine WL_val rfl rfl rfl (R_fieldAddr rfl fa54_5 rfl) ?_
    refine WL_val rfl rfl rfl (R_load rfl sc28 rfl (mmY) rfl) ?_
    refine WL_do rfl rfl rfl (D_call (rp_dead hb hq a.n a.g a.dir a.tm ha) rfl rfl rfl rfl (pqY)) ?_
    rintro _ _ ⟨_, ⟨q2, o3, c3, t3, rfl, w3, rfl, hq2⟩, rfl⟩
    refine WLa rfl (WLa rfl (WLa rfl (WLa rfl ?_)))
    refine WL_do rfl rfl rfl (D_alloc rfl zv81) ?_
    rintro _ _ ⟨b8, rfl, rfl⟩
    refine WL_do0 rfl rfl (D_store (vs := [_, _, _, _, _, _, _, _]) rfl Tryz.sizeOf81 rfl rfl rfl rfl rfl (plY) (Nat.le_of_ble_eq_true rfl)) ?_
    rintro _ _ rfl
    refine WLa rfl (WLa rfl (WL_nil (WQ_code (WC_seq ?_))))
    refine WC_drawR [⟨some b3, _⟩] [(0, true), (1, true), (2, true), (3, true), (4, true), (5, true), (6, true), (7, true), (8, true), (9, true), (10, true), (11, false), (12, true)] followsMixed rfl rfl (by kernel_rfl) (pqY) ?_
    refine WMa rfl ?_
    refine WM_val rfl rfl rfl rfl (R_loadA (vs := [_, _, _, _, _, _, _, _]) rfl ag81 rfl (mmY) rfl (atZ)) ?_
    refine WMa rfl (WMa rfl ?_)
    refine WM_call rfl (Spec.quiet (same_okB (z.deadL a.n a.g a.dir a.tm) o2 c2 t2 o3 c3 t3 w2 w3)) rfl rfl rfl rfl rfl rfl rfl (pqY) ?_
    refine WMa rfl (WMa rfl (WMa rfl ?_))
    refine WM_val rfl rfl rfl rfl (R_eql rfl rfl rfl) ?_
    refine WM_set (s := 142) (v := .bool true) rfl (by simp) ?_
    refine WMa rfl (WMa rfl ?_)
    refine WM_do0 rfl rfl rfl (D_store (vs := [_, _, _, _, _, _, _, _]) rfl Tryz.sizeOf81 rfl rfl rfl rfl rfl (plY) (Nat.le_of_ble_eq_true rfl)) ?_
    rintro _ _ rfl
    refine ⟨⟨_, pqY⟩, ?_⟩
    refine WMa rfl (WM_nil (WQ_code (WC_ret ?_)))
    refine WQ_ret rfl rfl (.cons (.tmp rfl) (.cons (.cell (vs := [_, _, _, _, _, _, _, _]) rfl ag81 (mmY) rfl (atZ)) (.cons (.tmp rfl) .nil))) rfl (by
      exact ⟨(z.dead a.n a.g a.dir a.tm), m2, q2, rfl, rfl, g2.mono (by omega), hq2.mono (Nat.le_succ K), (post_dead hz h.tb.len a.n a.g a.dir a.tm 0 0).inv⟩) (pqY)
   ·refine WC_seq (WC_region ?_)
    refine WL_val rfl rfl rfl (R_eql rfl rfl rfl) ?_
    refine WLa rfl (WL_nil (WQ_code ?_))
    refine WC_dec rfl (fun c4 => ?_) (fun c4 => ?_)
    ·refine WC_seq (WC_region (WLa rfl ?_))
     refine WL_val rfl rfl rfl (R_fieldAddr rfl fa54_2 rfl) ?_
     refine WL_val rfl rfl rfl (R_load rfl sc3 rfl (mmY) rfl) ?_
     refine WL_val rfl rfl rfl (R_fieldAddr rfl fa54_3 rfl) ?_
     refine WL_val rfl rfl rfl (R_loadA (vs := [_, _]) rfl ag30 rfl (mmY) rfl (atZ)) ?_
     refine WL_val rfl rfl rfl (R_fieldAddr rfl fa54_4 rfl) ?_
     refine WL_val rfl rfl rfl (R_load rfl sc44 rfl (mmY) rfl) ?_
     refine WL_do rfl rfl rfl (D_call (po_wait m h (by omega) a.task a.n a.g a.dir) rfl rfl rfl rfl (pqY)) ?_
     rintro _ _ ⟨_, ⟨m2, rfl, rfl, p2, g2⟩, rfl⟩
     rw [← p2]
     refine WLa rfl (WL_nil (WQ_code (WC_seq (WC_region ?_))))
     refine WL_val rfl rfl rfl (R_loadA (vs := [_, _, _, _, _, _, _, _]) rfl ag81 rfl (mmY) rfl (atZ)) ?_
     refine WL_val rfl rfl rfl (R_fieldAddr rfl fa54_2 rfl) ?_
     refine WL_val rfl rfl rfl (R_load rfl sc3 rfl (mmY) rfl) ?_
     refine WL_val rfl rfl rfl (R_fieldAddr rfl fa54_3 rfl) ?_
     refine WL_val rfl rfl rfl (R_loadA (vs := [_, _]) rfl ag30 rfl (mmY) rfl (atZ)) ?_
     refine WL_val rfl rfl rfl (R_fieldAddr rfl fa54_4 rfl) ?_
     refine WL_val rfl rfl rfl (R_load rfl sc44 rfl (mmY) rfl) ?_
     refine WL_do rfl rfl rfl (D_call (rp_wait hb hq a.task a.n a.g a.dir) rfl rfl rfl rfl (pqY)) ?_
     rintro _ _ ⟨_, ⟨q2, rfl, rfl, hq2⟩, rfl⟩
     refine WLa rfl (WLa rfl (WLa rfl ?_))
     refine WL_do rfl rfl rfl (D_alloc rfl zv81) ?_
     rintro _ _ ⟨b9, rfl, rfl⟩
     refine WL_do0 rfl rfl (D_store (vs := [_, _, _, _, _, _, _, _]) rfl Tryz.sizeOf81 rfl rfl rfl rfl rfl (plY) (Nat.le_of_ble_eq_true rfl)) ?_
     rintro _ _ rfl
     refine WLa rfl (WL_nil (WQ_code (WC_seq ?_)))
     refine WC_drawR [⟨some b3, _⟩] [(0, true), (1, true), (2, true), (3, true), (4, true), (5, true), (6, false), (7, true)] followsMixed rfl rfl (by kernel_rfl) (pqY) ?_
     refine WMa rfl ?_
     refine WM_val rfl rfl rfl rfl (R_loadA (vs := [_, _, _, _, _, _, _, _]) rfl ag81 rfl (mmY) rfl (atZ)) ?_
     refine WMa rfl (WMa rfl ?_)
     refine WM_val rfl rfl rfl rfl (R_eql rfl rfl rfl) ?_
     refine WM_set (s := 169) (v := .bool true) rfl (by simp) ?_
     refine WMa rfl ?_
     refine WM_do0 rfl rfl rfl (D_store (vs := [_, _, _, _, _, _, _, _]) rfl Tryz.sizeOf81 rfl rfl rfl rfl rfl (plY) (Nat.le_of_ble_eq_true rfl)) ?_
     rintro _ _ rfl
     refine ⟨⟨_, pqY⟩, ?_⟩
     refine WMa rfl (WM_nil (WQ_code (WC_ret ?_)))
     refine WQ_ret rfl rfl (.cons (.tmp rfl) (.cons (.cell (vs := [_, _, _, _, _, _, _, _]) rfl ag81 (mmY) rfl (atZ)) (.cons (.tmp rfl) .nil))) rfl (by
       exact ⟨(z.wait a.task a.n a.g a.dir), m2, q2, rfl, rfl, g2.mono (by omega), hq2.mono (Nat.le_succ K), (post_wait hz h.tb.len a.task a.n a.g a.dir 0 0).inv⟩) (pqY)
    ·refine WC_seq (WC_region ?_)
     refine WL_val rfl rfl rfl (R_eql rfl rfl rfl) ?_
     refine WLa rfl (WL_nil (WQ_code ?_))
     refine WC_dec rfl (fun c5 => ?_) (fun c5 => ?_)
     ·refine WC_seq (WC_region (WLa rfl ?_))
      refine WL_val rfl rfl rfl (R_fieldAddr rfl fa54_3 rfl) ?_
      refine WL_val rfl rfl rfl (R_loadA (vs := [_, _]) rfl ag30 rfl (mmY) rfl (atZ)) ?_
      refine WL_val rfl rfl rfl (R_fieldAddr rfl fa54_4 rfl) ?_
      refine WL_val rfl rfl rfl (R_load rfl sc44 rfl (mmY) rfl) ?_
      refine WL_do rfl rfl rfl (D_call (po_sig m h (by omega) a.n a.g a.dir) rfl rfl rfl rfl (pqY)) ?_
      rintro _ _ ⟨_, ⟨m2, rfl, rfl, p2, g2⟩, rfl⟩
      rw [← p2]
      refine WLa rfl (WLa rfl (WLa rfl (WLa rfl (WLa rfl (WL_nil (WQ_code (WC_seq (WC_region ?_))))))))
      refine WL_val rfl rfl rfl (R_loadA (vs := [_, _, _, _, _, _, _, _]) rfl ag81 rfl (mmY) rfl (atZ)) ?_
      refine WL_val rfl rfl rfl (R_fieldAddr rfl fa54_3 rfl) ?_
      refine WL_val rfl rfl rfl (R_loadA (vs := [_, _]) rfl ag30 rfl (mmY) rfl (atZ)) ?_
      refine WL_val rfl rfl rfl (R_fieldAddr rfl fa54_4 rfl) ?_
      refine WL_val rfl rfl rfl (R_load rfl sc44 rfl (mmY) rfl) ?_
      refine WL_do rfl rfl rfl (D_call (rp_sig hb hq a.n a.g a.dir) rfl rfl rfl rfl (pqY)) ?_
      rintro _ _ ⟨_, ⟨q2, rfl, rfl, hq2⟩, rfl⟩
      refine WLa rfl (WLa rfl (WLa rfl (WLa rfl ?_)))
      refine WL_do rfl rfl rfl (D_alloc rfl zv81) ?_
      rintro _ _ ⟨b10, rfl, rfl⟩
      refine WL_do0 rfl rfl (D_store (vs := [_, _, _, _, _, _, _, _]) rfl Tryz.sizeOf81 rfl rfl rfl rfl rfl (plY) (Nat.le_of_ble_eq_true rfl)) ?_
      rintro _ _ rfl
      refine WLa rfl (WLa rfl (WL_nil (WQ_code (WC_seq ?_))))
      refine WC_drawR [⟨some b3, _⟩] [(0, true), (1, true), (2, true), (3, true), (4, true), (5, true), (6, true), (7, true), (8, true), (9, true), (10, true), (11, false), (12, true)] followsMixed rfl rfl (by kernel_rfl) (pqY) ?_
      refine WMa rfl ?_
      refine WM_val rfl rfl rfl rfl (R_loadA (vs := [_, _, _, _, _, _, _, _]) rfl ag81 rfl (mmY) rfl (atZ)) ?_
      refine WMa rfl (WMa rfl ?_)
      refine WM_val rfl rfl rfl rfl (R_eql rfl rfl rfl) ?_
      refine WM_set (s := 195) (v := .bool true) rfl (by simp) ?_
      refine WMa rfl (WMa rfl (WMa rfl ?_))
      refine WM_val rfl rfl rfl rfl (R_eql rfl rfl rfl) ?_
      refine WM_set (s := 199) (v := .bool true) rfl (by simp) ?_
      refine WMa rfl (WMa rfl ?_)
      refine WM_do0 rfl rfl rfl (D_store (vs := [_, _, _, _, _, _, _, _]) rfl Tryz.sizeOf81 rfl rfl rfl rfl rfl (plY) (Nat.le_of_ble_eq_true rfl)) ?_
      rintro _ _ rfl
      refine ⟨⟨_, pqY⟩, ?_⟩
      refine WMa rfl (WM_nil (WQ_code (WC_ret ?_)))
      refine WQ_ret rfl rfl (.cons (.tmp rfl) (.cons (.cell (vs := [_, _, _, _, _, _, _, _]) rfl ag81 (mmY) rfl (atZ)) (.cons (.tmp rfl) .nil))) rfl (by
        exact ⟨(z.sig a.n a.g a.dir), m2, q2, rfl, rfl, g2.mono (by omega), hq2.mono (Nat.le_succ K), (post_sig hz a.n a.g a.dir 0 0).inv⟩) (pqY)
     ·refine WC_seq (WC_region ?_)
      refine WL_val rfl rfl rfl (R_eql rfl rfl rfl) ?_
      refine WLa rfl (WL_nil (WQ_code ?_))
      refine WC_dec rfl (fun c6 => ?_) (fun c6 => ?_)
      ·refine WC_seq (WC_region (WLa rfl ?_))
       refine WL_val rfl rfl rfl (R_fieldAddr rfl fa54_3 rfl) ?_
       refine WL_val rfl rfl rfl (R_loadA (vs := [_, _]) rfl ag30 rfl (mmY) rfl (atZ)) ?_
       refine WL_val rfl rfl rfl (R_fieldAddr rfl fa54_4 rfl) ?_
       refine WL_val rfl rfl rfl (R_load rfl sc44 rfl (mmY) rfl) ?_
       refine WL_do rfl rfl rfl (D_call (po_sigall m h (by omega) a.n a.g a.dir) rfl rfl rfl rfl (pqY)) ?_
       rintro _ _ ⟨_, ⟨m2, o2, c2, t2, rfl, w2, rfl, p2, g2⟩, rfl⟩
       rw [← p2]
       refine WLa rfl (WLa rfl (WLa rfl (WLa rfl (WLa rfl (WL_nil (WQ_code (WC_seq (WC_region ?_))))))))
       refine WL_val rfl rfl rfl (R_loadA (vs := [_, _, _, _, _, _, _, _]) rfl ag81 rfl (mmY) rfl (atZ)) ?_
       refine WL_val rfl rfl rfl (R_fieldAddr rfl fa54_3 rfl) ?_
       refine WL_val rfl rfl rfl (R_loadA (vs := [_, _]) rfl ag30 rfl (mmY) rfl (atZ)) ?_
       refine WL_val rfl rfl rfl (R_fieldAddr rfl fa54_4 rfl) ?_
       refine WL_val rfl rfl rfl (R_load rfl sc44 rfl (mmY) rfl) ?_
       refine WL_do rfl rfl rfl (D_call (rp_sigall hb hq a.n a.g a.dir) rfl rfl rfl rfl (pqY)) ?_
       rintro _ _ ⟨_, ⟨q2, o3, c3, t3, rfl, w3, rfl, hq2⟩, rfl⟩
       refine WLa rfl (WLa rfl (WLa rfl (WLa rfl ?_)))
       refine WL_do rfl rfl rfl (D_alloc rfl zv81) ?_
       rintro _ _ ⟨b11, rfl, rfl⟩
       refine WL_do0 rfl rfl (D_store (vs := [_, _, _, _, _, _, _, _]) rfl Tryz.sizeOf81 rfl rfl rfl rfl rfl (plY) (Nat.le_of_ble_eq_true rfl)) ?_
       rintro _ _ rfl
       refine WLa rfl (WLa rfl (WL_nil (WQ_code (WC_seq ?_))))
       refine WC_drawR [⟨some b3, _⟩] [(0, true), (1, true), (2, true), (3, true), (4, true), (5, true), (6, true), (7, true), (8, true), (9, true), (10, true), (11, false), (12, true)] followsMixed rfl rfl (by kernel_rfl) (pqY) ?_
       refine WMa rfl ?_
       refine WM_val rfl rfl rfl rfl (R_loadA (vs := [_, _, _, _, _, _, _, _]) rfl ag81 rfl (mmY) rfl (atZ)) ?_
       refine WMa rfl (WMa rfl ?_)
       refine WM_call rfl (Spec.quiet (same_okB (z.sigL a.n a.g a.dir) o2 c2 t2 o3 c3 t3 w2 w3)) rfl rfl rfl rfl rfl rfl rfl (pqY) ?_
       refine WMa rfl (WMa rfl (WMa rfl ?_))
       refine WM_val rfl rfl rfl rfl (R_eql rfl rfl rfl) ?_
       refine WM_set (s := 230) (v := .bool true) rfl (by simp) ?_
       refine WMa rfl (WMa rfl ?_)
       refine WM_do0 rfl rfl rfl (D_store (vs := [_, _, _, _, _, _, _, _]) rfl Tryz.sizeOf81 rfl rfl rfl rfl rfl (plY) (Nat.le_of_ble_eq_true rfl)) ?_
       rintro _ _ rfl
       refine ⟨⟨_, pqY⟩, ?_⟩
       refine WMa rfl (WM_nil (WQ_code (WC_ret ?_)))
       refine WQ_ret rfl rfl (.cons (.tmp rfl) (.cons (.cell (vs := [_, _, _, _, _, _, _, _]) rfl ag81 (mmY) rfl (atZ)) (.cons (.tmp rfl) .nil))) rfl (by
         exact ⟨(z.sigAll a.n a.g a.dir), m2, q2, rfl, rfl, g2.mono (by omega), hq2.mono (Nat.le_succ K), (post_sigAll hz a.n a.g a.dir 0 0).inv⟩) (pqY)
      ·refine WC_seq (WC_seq (WC_region ?_))
       refine WL_val rfl rfl rfl (R_eql rfl rfl rfl) ?_
       refine WLa rfl (WL_nil (WQ_code ?_))
       refine WC_dec rfl (fun c7 => ?_) (fun c7 => ?_)
       ·refine WC_skip (WQ_code ?_)
        refine WC_dT rfl c7 ?_
        refine WC_seq (WC_region ?_)
        refine WL_val rfl rfl rfl (R_fieldAddr rfl fa54_5 rfl) ?_
        refine WL_val rfl rfl rfl (R_load rfl sc28 rfl (mmY) rfl) ?_
        refine WLa rfl (WL_nil (WQ_code (WC_seq (WC_seq (WC_region ?_)))))
        refine WL_val rfl rfl rfl (R_fieldAddr rfl fa54_0 rfl) ?_
        refine WL_val rfl rfl rfl (R_load rfl sc3 rfl (mmY) rfl) ?_
        refine WL_val rfl rfl rfl (R_eql rfl rfl rfl) ?_
        refine WL_nil (WQ_code ?_)
        refine WC_dec rfl (fun c8 => ?_) (fun c8 => ?_)
        ·refine WC_region ?_
         refine WL_val rfl rfl rfl (R_fieldAddr rfl fa81_1 rfl) ?_
         refine WL_val rfl rfl rfl (R_loadA (vs := [_, _]) rfl ag74 rfl (mmY) rfl (atZ)) ?_
         refine WL_do rfl rfl rfl (D_call (Dr.rnext_ok q.D q.od q.cd q.td hq.rd hq.od hb.nw) rfl rfl rfl rfl (pqY)) ?_
         rintro _ _ ⟨_, ⟨rfl, rfl⟩, rfl⟩
         refine WLa rfl (WL_nil (WQ_code (WC_seq (WC_region (WLa rfl (WLa rfl ?_))))))
         refine WL_do rfl rfl rfl (D_call (po_adv m h (by omega) (Dr.minL (Dr.awake q.D z.now)) ((Dr.minL_le _).1)) rfl rfl rfl rfl (pqY)) ?_
         rintro _ _ ⟨_, ⟨l2, m2, o2, c2, t2, hl2, hll2, rfl, w2, rfl, p2, g2⟩, rfl⟩
         rw [← p2]
         refine WLa rfl (WLa rfl (WLa rfl (WLa rfl (WLa rfl (WL_nil (WQ_code (WC_seq (WC_region ?_))))))))
         refine WL_val rfl rfl rfl (R_loadA (vs := [_, _, _, _, _, _, _, _]) rfl ag81 rfl (mmY) rfl (atZ)) ?_
         refine WLa rfl ?_
         refine WL_do rfl rfl rfl (D_call (rp_adv hb hq (Dr.minL (Dr.awake q.D z.now)) ((Dr.minL_le _).1)) rfl rfl rfl rfl (pqY)) ?_
         rintro _ _ ⟨_, ⟨l3, q2, o3, c3, t3, hl3, rfl, w3, rfl, hq2⟩, rfl⟩
         obtain rfl := hl2.one hl3
         refine WLa rfl (WLa rfl (WLa rfl (WLa rfl ?_)))
         refine WL_do rfl rfl rfl (D_alloc rfl zv81) ?_
         rintro _ _ ⟨b12, rfl, rfl⟩
         refine WL_do0 rfl rfl (D_store (vs := [_, _, _, _, _, _, _, _]) rfl Tryz.sizeOf81 rfl rfl rfl rfl rfl (plY) (Nat.le_of_ble_eq_true rfl)) ?_
         rintro _ _ rfl
         refine WLa rfl (WLa rfl (WL_nil (WQ_code (WC_seq ?_))))
         refine WC_drawR [⟨some b3, _⟩] [(0, true), (1, true), (2, true), (3, true), (4, true), (5, true), (6, true), (7, true), (8, true), (9, true), (10, true), (11, false), (12, true)] followsMixed rfl rfl (by kernel_rfl) (pqY) ?_
         refine WMa rfl ?_
         refine WM_val rfl rfl rfl rfl (R_loadA (vs := [_, _, _, _, _, _, _, _]) rfl ag81 rfl (mmY) rfl (atZ)) ?_
         refine WMa rfl (WMa rfl ?_)
         refine WM_call rfl (Spec.quiet (same_okB ((z.advS (Dr.minL (Dr.awake q.D z.now))).laps l2).2 o2 c2 t2 o3 c3 t3 w2 w3)) rfl rfl rfl rfl rfl rfl rfl (pqY) ?_
         refine WMa rfl (WMa rfl (WMa rfl ?_))
         refine WM_val rfl rfl rfl rfl (R_eql rfl rfl rfl) ?_
         refine WM_set (s := 264) (v := .bool true) rfl (by simp) ?_
         refine WMa rfl (WMa rfl ?_)
         refine WM_do0 rfl rfl rfl (D_store (vs := [_, _, _, _, _, _, _, _]) rfl Tryz.sizeOf81 rfl rfl rfl rfl rfl (plY) (Nat.le_of_ble_eq_true rfl)) ?_
         rintro _ _ rfl
         refine ⟨⟨_, pqY⟩, ?_⟩
         refine WMa rfl (WM_nil (WQ_code (WC_ret ?_)))
         refine WQ_ret rfl rfl (.cons (.tmp rfl) (.cons (.cell (vs := [_, _, _, _, _, _, _, _]) rfl ag81 (mmY) rfl (atZ)) (.cons (.tmp rfl) .nil))) rfl (by
           exact ⟨((z.advS (Dr.minL (Dr.awake q.D z.now))).laps l2).1, m2, q2, rfl, rfl, g2.mono (by omega), hq2.mono (Nat.le_succ K), (post_adv hz (Dr.minL (Dr.awake q.D z.now)) ((Dr.minL_le _).1) l2 hl2 0 0).inv⟩) (pqY)
        ·refine WC_skip (WQ_code (WC_seq (WC_region (WLa rfl (WLa rfl ?_)))))
         refine WL_do rfl rfl rfl (D_call (po_adv m h (by omega) a.tm (ha)) rfl rfl rfl rfl (pqY)) ?_
         rintro _ _ ⟨_, ⟨l2, m2, o2, c2, t2, hl2, hll2, rfl, w2, rfl, p2, g2⟩, rfl⟩
         rw [← p2]
         refine WLa rfl (WLa rfl (WLa rfl (WLa rfl (WLa rfl (WL_nil (WQ_code (WC_seq (WC_region ?_))))))))
         refine WL_val rfl rfl rfl (R_loadA (vs := [_, _, _, _, _, _, _, _]) rfl ag81 rfl (mmY) rfl (atZ)) ?_
         refine WLa rfl ?_
         refine WL_do rfl rfl rfl (D_call (rp_adv hb hq a.tm (ha)) rfl rfl rfl rfl (pqY)) ?_
         rintro _ _ ⟨_, ⟨l3, q2, o3, c3, t3, hl3, rfl, w3, rfl, hq2⟩, rfl⟩
         obtain rfl := hl2.one hl3
         refine WLa rfl (WLa rfl (WLa rfl (WLa rfl ?_)))
         refine WL_do rfl rfl rfl (D_alloc rfl zv81) ?_
         rintro _ _ ⟨b13, rfl, rfl⟩
         refine WL_do0 rfl rfl (D_store (vs := [_, _, _, _, _, _, _, _]) rfl Tryz.sizeOf81 rfl rfl rfl rfl rfl (plY) (Nat.le_of_ble_eq_true rfl)) ?_
         rintro _ _ rfl
         refine WLa rfl (WLa rfl (WL_nil (WQ_code (WC_seq ?_))))
         refine WC_drawR [⟨some b3, _⟩] [(0, true), (1, true), (2, true), (3, true), (4, true), (5, true), (6, true), (7, true), (8, true), (9, true), (10, true), (11, false), (12, true)] followsMixed rfl rfl (by kernel_rfl) (pqY) ?_
         refine WMa rfl ?_
         refine WM_val rfl rfl rfl rfl (R_loadA (vs := [_, _, _, _, _, _, _, _]) rfl ag81 rfl (mmY) rfl (atZ)) ?_
         refine WMa rfl (WMa rfl ?_)
         refine WM_call rfl (Spec.quiet (same_okB ((z.advS a.tm).laps l2).2 o2 c2 t2 o3 c3 t3 w2 w3)) rfl rfl rfl rfl rfl rfl rfl (pqY) ?_
         refine WMa rfl (WMa rfl (WMa rfl ?_))
         refine WM_val rfl rfl rfl rfl (R_eql rfl rfl rfl) ?_
         refine WM_set (s := 264) (v := .bool true) rfl (by simp) ?_
         refine WMa rfl (WMa rfl ?_)
         refine WM_do0 rfl rfl rfl (D_store (vs := [_, _, _, _, _, _, _, _]) rfl Tryz.sizeOf81 rfl rfl rfl rfl rfl (plY) (Nat.le_of_ble_eq_true rfl)) ?_
         rintro _ _ rfl
         refine ⟨⟨_, pqY⟩, ?_⟩
         refine WMa rfl (WM_nil (WQ_code (WC_ret ?_)))
         refine WQ_ret rfl rfl (.cons (.tmp rfl) (.cons (.cell (vs := [_, _, _, _, _, _, _, _]) rfl ag81 (mmY) rfl (atZ)) (.cons (.tmp rfl) .nil))) rfl (by
           exact ⟨((z.advS a.tm).laps l2).1, m2, q2, rfl, rfl, g2.mono (by omega), hq2.mono (Nat.le_succ K), (post_adv hz a.tm (ha) l2 hl2 0 0).inv⟩) (pqY)
       ·refine WC_region ?_
        refine WL_val rfl rfl rfl (R_eql rfl rfl rfl) ?_
        refine WLa rfl (WL_nil (WQ_code ?_))
        refine WC_dec rfl (fun c9 => ?_) (fun c9 => ?_)
        ·refine WC_seq (WC_region ?_)
         refine WL_val rfl rfl rfl (R_fieldAddr rfl fa54_5 rfl) ?_
         refine WL_val rfl rfl rfl (R_load rfl sc28 rfl (mmY) rfl) ?_
         refine WLa rfl (WL_nil (WQ_code (WC_seq (WC_seq (WC_region ?_)))))
         refine WL_val rfl rfl rfl (R_fieldAddr rfl fa54_0 rfl) ?_
         refine WL_val rfl rfl rfl (R_load rfl sc3 rfl (mmY) rfl) ?_
         refine WL_val rfl rfl rfl (R_eql rfl rfl rfl) ?_
         refine WL_nil (WQ_code ?_)
         refine WC_dec rfl (fun c10 => ?_) (fun c10 => ?_)
         ·refine WC_region ?_
          refine WL_val rfl rfl rfl (R_fieldAddr rfl fa81_1 rfl) ?_
          refine WL_val rfl rfl rfl (R_loadA (vs := [_, _]) rfl ag74 rfl (mmY) rfl (atZ)) ?_
          refine WL_do rfl rfl rfl (D_call (Dr.rnext_ok q.D q.od q.cd q.td hq.rd hq.od hb.nw) rfl rfl rfl rfl (pqY)) ?_
          rintro _ _ ⟨_, ⟨rfl, rfl⟩, rfl⟩
          refine WLa rfl (WL_nil (WQ_code (WC_seq (WC_region (WLa rfl (WLa rfl ?_))))))
          refine WL_do rfl rfl rfl (D_call (po_adv m h (by omega) (Dr.minL (Dr.awake q.D z.now)) ((Dr.minL_le _).1)) rfl rfl rfl rfl (pqY)) ?_
          rintro _ _ ⟨_, ⟨l2, m2, o2, c2, t2, hl2, hll2, rfl, w2, rfl, p2, g2⟩, rfl⟩
          rw [← p2]
          refine WLa rfl (WLa rfl (WLa rfl (WLa rfl (WLa rfl (WL_nil (WQ_code (WC_seq (WC_region ?_))))))))
          refine WL_val rfl rfl rfl (R_loadA (vs := [_, _, _, _, _, _, _, _]) rfl ag81 rfl (mmY) rfl (atZ)) ?_
          refine WLa rfl ?_
          refine WL_do rfl rfl rfl (D_call (rp_adv hb hq (Dr.minL (Dr.awake q.D z.now)) ((Dr.minL_le _).1)) rfl rfl rfl rfl (pqY)) ?_
          rintro _ _ ⟨_, ⟨l3, q2, o3, c3, t3, hl3, rfl, w3, rfl, hq2⟩, rfl⟩
          obtain rfl := hl2.one hl3
          refine WLa rfl (WLa rfl (WLa rfl (WLa rfl ?_)))
          refine WL_do rfl rfl rfl (D_alloc rfl zv81) ?_
          rintro _ _ ⟨b14, rfl, rfl⟩
          refine WL_do0 rfl rfl (D_store (vs := [_, _, _, _, _, _, _, _]) rfl Tryz.sizeOf81 rfl rfl rfl rfl rfl (plY) (Nat.le_of_ble_eq_true rfl)) ?_
          rintro _ _ rfl
          refine WLa rfl (WLa rfl (WL_nil (WQ_code (WC_seq ?_))))
          refine WC_drawR [⟨some b3, _⟩] [(0, true), (1, true), (2, true), (3, true), (4, true), (5, true), (6, true), (7, true), (8, true), (9, true), (10, true), (11, false), (12, true)] followsMixed rfl rfl (by kernel_rfl) (pqY) ?_
          refine WMa rfl ?_
          refine WM_val rfl rfl rfl rfl (R_loadA (vs := [_, _, _, _, _, _, _, _]) rfl ag81 rfl (mmY) rfl (atZ)) ?_
          refine WMa rfl (WMa rfl ?_)
          refine WM_call rfl (Spec.quiet (same_okB ((z.advS (Dr.minL (Dr.awake q.D z.now))).laps l2).2 o2 c2 t2 o3 c3 t3 w2 w3)) rfl rfl rfl rfl rfl rfl rfl (pqY) ?_
          refine WMa rfl (WMa rfl (WMa rfl ?_))
          refine WM_val rfl rfl rfl rfl (R_eql rfl rfl rfl) ?_
          refine WM_set (s := 264) (v := .bool true) rfl (by simp) ?_
          refine WMa rfl (WMa rfl ?_)
          refine WM_do0 rfl rfl rfl (D_store (vs := [_, _, _, _, _, _, _, _]) rfl Tryz.sizeOf81 rfl rfl rfl rfl rfl (plY) (Nat.le_of_ble_eq_true rfl)) ?_
          rintro _ _ rfl
          refine ⟨⟨_, pqY⟩, ?_⟩
          refine WMa rfl (WM_nil (WQ_code (WC_ret ?_)))
          refine WQ_ret rfl rfl (.cons (.tmp rfl) (.cons (.cell (vs := [_, _, _, _, _, _, _, _]) rfl ag81 (mmY) rfl (atZ)) (.cons (.tmp rfl) .nil))) rfl (by
            exact ⟨((z.advS (Dr.minL (Dr.awake q.D z.now))).laps l2).1, m2, q2, rfl, rfl, g2.mono (by omega), hq2.mono (Nat.le_succ K), (post_adv hz (Dr.minL (Dr.awake q.D z.now)) ((Dr.minL_le _).1) l2 hl2 0 0).inv⟩) (pqY)
         ·refine WC_skip (WQ_code (WC_seq (WC_region (WLa rfl (WLa rfl ?_)))))
          refine WL_do rfl rfl rfl (D_call (po_adv m h (by omega) a.tm (ha)) rfl rfl rfl rfl (pqY)) ?_
          rintro _ _ ⟨_, ⟨l2, m2, o2, c2, t2, hl2, hll2, rfl, w2, rfl, p2, g2⟩, rfl⟩
          rw [← p2]
          refine WLa rfl (WLa rfl (WLa rfl (WLa rfl (WLa rfl (WL_nil (WQ_code (WC_seq (WC_region ?_))))))))
          refine WL_val rfl rfl rfl (R_loadA (vs := [_, _, _, _, _, _, _, _]) rfl ag81 rfl (mmY) rfl (atZ)) ?_
          refine WLa rfl ?_
          refine WL_do rfl rfl rfl (D_call (rp_adv hb hq a.tm (ha)) rfl rfl rfl rfl (pqY)) ?_
          rintro _ _ ⟨_, ⟨l3, q2, o3, c3, t3, hl3, rfl, w3, rfl, hq2⟩, rfl⟩
          obtain rfl := hl2.one hl3
          refine WLa rfl (WLa rfl (WLa rfl (WLa rfl ?_)))
          refine WL_do rfl rfl rfl (D_alloc rfl zv81) ?_
          rintro _ _ ⟨b15, rfl, rfl⟩
          refine WL_do0 rfl rfl (D_store (vs := [_, _, _, _, _, _, _, _]) rfl Tryz.sizeOf81 rfl rfl rfl rfl rfl (plY) (Nat.le_of_ble_eq_true rfl)) ?_
          rintro _ _ rfl
          refine WLa rfl (WLa rfl (WL_nil (WQ_code (WC_seq ?_))))
          refine WC_drawR [⟨some b3, _⟩] [(0, true), (1, true), (2, true), (3, true), (4, true), (5, true), (6, true), (7, true), (8, true), (9, true), (10, true), (11, false), (12, true)] followsMixed rfl rfl (by kernel_rfl) (pqY) ?_
          refine WMa rfl ?_
          refine WM_val rfl rfl rfl rfl (R_loadA (vs := [_, _, _, _, _, _, _, _]) rfl ag81 rfl (mmY) rfl (atZ)) ?_
          refine WMa rfl (WMa rfl ?_)
          refine WM_call rfl (Spec.quiet (same_okB ((z.advS a.tm).laps l2).2 o2 c2 t2 o3 c3 t3 w2 w3)) rfl rfl rfl rfl rfl rfl rfl (pqY) ?_
          refine WMa rfl (WMa rfl (WMa rfl ?_))
          refine WM_val rfl rfl rfl rfl (R_eql rfl rfl rfl) ?_
          refine WM_set (s := 264) (v := .bool true) rfl (by simp) ?_
          refine WMa rfl (WMa rfl ?_)
          refine WM_do0 rfl rfl rfl (D_store (vs := [_, _, _, _, _, _, _, _]) rfl Tryz.sizeOf81 rfl rfl rfl rfl rfl (plY) (Nat.le_of_ble_eq_true rfl)) ?_
          rintro _ _ rfl
          refine ⟨⟨_, pqY⟩, ?_⟩
          refine WMa rfl (WM_nil (WQ_code (WC_ret ?_)))
          refine WQ_ret rfl rfl (.cons (.tmp rfl) (.cons (.cell (vs := [_, _, _, _, _, _, _, _]) rfl ag81 (mmY) rfl (atZ)) (.cons (.tmp rfl) .nil))) rfl (by
            exact ⟨((z.advS a.tm).laps l2).1, m2, q2, rfl, rfl, g2.mono (by omega), hq2.mono (Nat.le_succ K), (post_adv hz a.tm (ha) l2 hl2 0 0).inv⟩) (pqY)
        ·refine WC_seq (WC_region ?_)
         refine WL_val rfl rfl rfl (R_eql rfl rfl rfl) ?_
         refine WLa rfl (WL_nil (WQ_code ?_))
         refine WC_dec rfl (fun c11 => ?_) (fun c11 => ?_)
         ·refine WC_seq (WC_region (WLa rfl ?_))
          refine WL_val rfl rfl rfl (R_fieldAddr rfl fa54_2 rfl) ?_
          refine WL_val rfl rfl rfl (R_load rfl sc3 rfl (mmY) rfl) ?_
          refine WL_do rfl rfl rfl (D_call (po_start m h (by omega) a.task) rfl rfl rfl rfl (pqY)) ?_
          rintro _ _ ⟨_, ⟨m2, rfl, rfl, p2, g2⟩, rfl⟩
          rw [← p2]
          refine WLa rfl (WL_nil (WQ_code (WC_seq (WC_region ?_))))
          refine WL_val rfl rfl rfl (R_loadA (vs := [_, _, _, _, _, _, _, _]) rfl ag81 rfl (mmY) rfl (atZ)) ?_
          refine WL_val rfl rfl rfl (R_fieldAddr rfl fa54_2 rfl) ?_
          refine WL_val rfl rfl rfl (R_load rfl sc3 rfl (mmY) rfl) ?_
          refine WL_do rfl rfl rfl (D_call (rp_start hb hq a.task) rfl rfl rfl rfl (pqY)) ?_
          rintro _ _ ⟨_, ⟨q2, rfl, rfl, hq2⟩, rfl⟩
          refine WLa rfl (WLa rfl (WLa rfl ?_))
          refine WL_do rfl rfl rfl (D_alloc rfl zv81) ?_
          rintro _ _ ⟨b16, rfl, rfl⟩
          refine WL_do0 rfl rfl (D_store (vs := [_, _, _, _, _, _, _, _]) rfl Tryz.sizeOf81 rfl rfl rfl rfl rfl (plY) (Nat.le_of_ble_eq_true rfl)) ?_
          rintro _ _ rfl
          refine WLa rfl (WL_nil (WQ_code (WC_seq ?_)))
          refine WC_drawR [⟨some b3, _⟩] [(0, true), (1, true), (2, true), (3, true), (4, true), (5, true), (6, false), (7, true)] followsMixed rfl rfl (by kernel_rfl) (pqY) ?_
          refine WMa rfl ?_
          refine WM_val rfl rfl rfl rfl (R_loadA (vs := [_, _, _, _, _, _, _, _]) rfl ag81 rfl (mmY) rfl (atZ)) ?_
          refine WMa rfl (WMa rfl ?_)
          refine WM_val rfl rfl rfl rfl (R_eql rfl rfl rfl) ?_
          refine WM_set (s := 283) (v := .bool true) rfl (by simp) ?_
          refine WMa rfl ?_
          refine WM_do0 rfl rfl rfl (D_store (vs := [_, _, _, _, _, _, _, _]) rfl Tryz.sizeOf81 rfl rfl rfl rfl rfl (plY) (Nat.le_of_ble_eq_true rfl)) ?_
          rintro _ _ rfl
          refine ⟨⟨_, pqY⟩, ?_⟩
          refine WMa rfl (WM_nil (WQ_code (WC_ret ?_)))
          refine WQ_ret rfl rfl (.cons (.tmp rfl) (.cons (.cell (vs := [_, _, _, _, _, _, _, _]) rfl ag81 (mmY) rfl (atZ)) (.cons (.tmp rfl) .nil))) rfl (by
            exact ⟨(z.start a.task), m2, q2, rfl, rfl, g2.mono (by omega), hq2.mono (Nat.le_succ K), (post_start hz a.task 0 0).inv⟩) (pqY)
         ·refine WC_seq (WC_region ?_)
          refine WL_val rfl rfl rfl (R_eql rfl rfl rfl) ?_
          refine WLa rfl (WL_nil (WQ_code ?_))
          refine WC_dec rfl (fun c12 => ?_) (fun c12 => ?_)
          ·refine WC_seq (WC_region (WLa rfl ?_))
           refine WL_val rfl rfl rfl (R_fieldAddr rfl fa54_2 rfl) ?_
           refine WL_val rfl rfl rfl (R_load rfl sc3 rfl (mmY) rfl) ?_
           refine WL_do rfl rfl rfl (D_call (po_fin m h (by omega) a.task) rfl rfl rfl rfl (pqY)) ?_
           rintro _ _ ⟨_, ⟨m2, rfl, rfl, p2, g2⟩, rfl⟩
           rw [← p2]
           refine WLa rfl (WL_nil (WQ_code (WC_seq (WC_region ?_))))
           refine WL_val rfl rfl rfl (R_loadA (vs := [_, _, _, _, _, _, _, _]) rfl ag81 rfl (mmY) rfl (atZ)) ?_
           refine WL_val rfl rfl rfl (R_fieldAddr rfl fa54_2 rfl) ?_
           refine WL_val rfl rfl rfl (R_load rfl sc3 rfl (mmY) rfl) ?_
           refine WL_do rfl rfl rfl (D_call (rp_fin hb hq a.task) rfl rfl rfl rfl (pqY)) ?_
           rintro _ _ ⟨_, ⟨q2, rfl, rfl, hq2⟩, rfl⟩
           refine WLa rfl (WLa rfl (WLa rfl ?_))
           refine WL_do rfl rfl rfl (D_alloc rfl zv81) ?_
           rintro _ _ ⟨b17, rfl, rfl⟩
           refine WL_do0 rfl rfl (D_store (vs := [_, _, _, _, _, _, _, _]) rfl Tryz.sizeOf81 rfl rfl rfl rfl rfl (plY) (Nat.le_of_ble_eq_true rfl)) ?_
           rintro _ _ rfl
           refine WLa rfl (WL_nil (WQ_code (WC_seq ?_)))
           refine WC_drawR [⟨some b3, _⟩] [(0, true), (1, true), (2, true), (3, true), (4, true), (5, true), (6, false), (7, true)] followsMixed rfl rfl (by kernel_rfl) (pqY) ?_
           refine WMa rfl ?_
           refine WM_val rfl rfl rfl rfl (R_loadA (vs := [_, _, _, _, _, _, _, _]) rfl ag81 rfl (mmY) rfl (atZ)) ?_
           refine WMa rfl (WMa rfl ?_)
           refine WM_val rfl rfl rfl rfl (R_eql rfl rfl rfl) ?_
           refine WM_set (s := 301) (v := .bool true) rfl (by simp) ?_
           refine WMa rfl ?_
           refine WM_do0 rfl rfl rfl (D_store (vs := [_, _, _, _, _, _, _, _]) rfl Tryz.sizeOf81 rfl rfl rfl rfl rfl (plY) (Nat.le_of_ble_eq_true rfl)) ?_
           rintro _ _ rfl
           refine ⟨⟨_, pqY⟩, ?_⟩
           refine WMa rfl (WM_nil (WQ_code (WC_ret ?_)))
           refine WQ_ret rfl rfl (.cons (.tmp rfl) (.cons (.cell (vs := [_, _, _, _, _, _, _, _]) rfl ag81 (mmY) rfl (atZ)) (.cons (.tmp rfl) .nil))) rfl (by
             exact ⟨(z.fin a.task), m2, q2, rfl, rfl, g2.mono (by omega), hq2.mono (Nat.le_succ K), (post_fin hz a.task 0 0).inv⟩) (pqY)
          ·refine WC_seq (WC_region ?_)
           refine WL_val rfl rfl rfl (R_eql rfl rfl rfl) ?_
           refine WLa rfl (WL_nil (WQ_code ?_))
           refine WC_dec rfl (fun c13 => ?_) (fun c13 => ?_)
           ·refine WC_seq (WC_region (WLa rfl ?_))
            refine WL_val rfl rfl rfl (R_fieldAddr rfl fa54_2 rfl) ?_
            refine WL_val rfl rfl rfl (R_load rfl sc3 rfl (mmY) rfl) ?_
            refine WL_do rfl rfl rfl (D_call (po_turn m h (by omega) a.task) rfl rfl rfl rfl (pqY)) ?_
            rintro _ _ ⟨_, ⟨m2, rfl, rfl, p2, g2⟩, rfl⟩
            rw [← p2]
            refine WLa rfl (WL_nil (WQ_code (WC_seq (WC_region ?_))))
            refine WL_val rfl rfl rfl (R_loadA (vs := [_, _, _, _, _, _, _, _]) rfl ag81 rfl (mmY) rfl (atZ)) ?_
            refine WL_val rfl rfl rfl (R_fieldAddr rfl fa54_2 rfl) ?_
            refine WL_val rfl rfl rfl (R_load rfl sc3 rfl (mmY) rfl) ?_
            refine WL_do rfl rfl rfl (D_call (rp_turn hb hq a.task) rfl rfl rfl rfl (pqY)) ?_
            rintro _ _ ⟨_, ⟨q2, rfl, rfl, hq2⟩, rfl⟩
            refine WLa rfl (WLa rfl (WLa rfl ?_))
            refine WL_do rfl rfl rfl (D_alloc rfl zv81) ?_
            rintro _ _ ⟨b18, rfl, rfl⟩
            refine WL_do0 rfl rfl (D_store (vs := [_, _, _, _, _, _, _, _]) rfl Tryz.sizeOf81 rfl rfl rfl rfl rfl (plY) (Nat.le_of_ble_eq_true rfl)) ?_
            rintro _ _ rfl
            refine WLa rfl (WL_nil (WQ_code (WC_seq ?_)))
            refine WC_drawR [⟨some b3, _⟩] [(0, true), (1, true), (2, true), (3, true), (4, true), (5, true), (6, false), (7, true)] followsMixed rfl rfl (by kernel_rfl) (pqY) ?_
            refine WMa rfl ?_
            refine WM_val rfl rfl rfl rfl (R_loadA (vs := [_, _, _, _, _, _, _, _]) rfl ag81 rfl (mmY) rfl (atZ)) ?_
            refine WMa rfl (WMa rfl ?_)
            refine WM_val rfl rfl rfl rfl (R_eql rfl rfl rfl) ?_
            refine WM_set (s := 319) (v := .bool true) rfl (by simp) ?_
            refine WMa rfl ?_
            refine WM_do0 rfl rfl rfl (D_store (vs := [_, _, _, _, _, _, _, _]) rfl Tryz.sizeOf81 rfl rfl rfl rfl rfl (plY) (Nat.le_of_ble_eq_true rfl)) ?_
            rintro _ _ rfl
            refine ⟨⟨_, pqY⟩, ?_⟩
            refine WMa rfl (WM_nil (WQ_code (WC_ret ?_)))
            refine WQ_ret rfl rfl (.cons (.tmp rfl) (.cons (.cell (vs := [_, _, _, _, _, _, _, _]) rfl ag81 (mmY) rfl (atZ)) (.cons (.tmp rfl) .nil))) rfl (by
              exact ⟨(z.turn a.task), m2, q2, rfl, rfl, g2.mono (by omega), hq2.mono (Nat.le_succ K), (post_turn hz a.task 0 0).inv⟩) (pqY)
           ·refine WC_skip (WQ_code (WC_seq (WC_region (WLa rfl ?_))))
            refine WL_do rfl rfl rfl (D_call (po_copy m h (by omega)) rfl rfl rfl rfl (pqY)) ?_
            rintro _ _ ⟨_, ⟨m2, rfl, rfl, g2⟩, rfl⟩
            refine WLa rfl (WL_nil (WQ_code (WC_seq (WC_seq (WC_region (WLa rfl ?_))))))
            refine WL_val rfl rfl rfl (R_ptrEqNil rfl Tryz.underlying23 rfl) ?_
            refine WL_nil (WQ_code ?_)
            refine WC_F rfl ?_
            refine WC_skip (WQ_code (WC_seq (WC_region (WLa rfl ?_))))
            refine WL_do rfl rfl rfl (D_call (po_start m h (by omega) 0) rfl rfl rfl rfl (pqY)) ?_
            rintro _ _ ⟨_, ⟨m3, rfl, rfl, p3, g3⟩, rfl⟩
            rw [← p3]
            refine WL_nil (WQ_code (WC_seq (WC_region (WLa rfl ?_))))
            refine WL_val rfl rfl rfl (R_fieldAddr rfl fa54_3 rfl) ?_
            refine WL_val rfl rfl rfl (R_loadA (vs := [_, _]) rfl ag30 rfl (mmY) rfl (atZ)) ?_
            refine WL_do rfl rfl rfl (D_call (po_close m3 g3 (by omega) a.n a.g) rfl rfl rfl rfl (pqY)) ?_
            rintro _ _ ⟨_, ⟨m4, o4, c4, t4, rfl, w4, rfl, p4, g4⟩, rfl⟩
            rw [← p4]
            refine WL_nil (WQ_code (WC_seq (WC_region (WLa rfl ?_))))
            refine WL_do rfl rfl rfl (D_call (po_open m4 g4 (by omega) 1) rfl rfl rfl rfl (pqY)) ?_
            rintro _ _ ⟨_, ⟨rfl, rfl, g5⟩, rfl⟩
            refine WL_nil (WQ_code (WC_seq (WC_region (WLa rfl ?_))))
            refine WL_do rfl rfl rfl (D_call (po_adv m4 g5 (by omega) 18446744073709551614 (by decide)) rfl rfl rfl rfl (pqY)) ?_
            rintro _ _ ⟨_, ⟨l6, m6, o6, c6, t6, hl6, hll6, rfl, w6, rfl, p6, g6⟩, rfl⟩
            rw [← p6]
            refine WL_nil (WQ_code (WC_seq ?_))
            refine WC_drawR [⟨some b3, _⟩] [(0, true), (1, true), (2, true), (3, false), (4, true)] followsMixed rfl rfl (by kernel_rfl) (pqY) ?_
            refine WMa rfl ?_
            refine WM_val rfl rfl rfl rfl (R_loadA (vs := [_, _, _, _, _, _, _, _]) rfl ag81 rfl (mmY) rfl (atZ)) ?_
            refine WMa rfl ?_
            refine WM_do0 rfl rfl rfl (D_store (vs := [_, _, _, _, _, _, _, _]) rfl Tryz.sizeOf81 rfl rfl rfl rfl rfl (plY) (Nat.le_of_ble_eq_true rfl)) ?_
            rintro _ _ rfl
            refine ⟨⟨_, pqY⟩, ?_⟩
            refine WMa rfl (WM_nil (WQ_code (WC_ret ?_)))
            refine WQ_ret rfl rfl (.cons (.tmp rfl) (.cons (.cell (vs := [_, _, _, _, _, _, _, _]) rfl ag81 (mmY) rfl (atZ)) (.cons (.tmp rfl) .nil))) rfl (by
              exact ⟨z, m2, q, rfl, rfl, g2.mono (by omega), hq.mono (Nat.le_succ K), hz⟩) (pqY)
end Go.Proofs.YtbkdebnkoidicaaGreat
end
section
set_option linter.unusedVariables false
set_option maxRecDepth 20000
set_option maxHeartbeats 16000000
namespace Go.Proofs.YtbkdebnkoidicaaGreat
theorem po_nextR {N K : Nat} {z : PoS} {q : RpM} (m : PoM) (h : PoIs N z m) (hN : N ≤ 700000) (hq : RpOk K z q) : Spec Tryz.prog 36 [ptrH m.p] (poH z m) (fun x H' => x = .int .u64 (Dr.minL (Dr.awake q.D z.now) : Int) ∧ H' = poH z m) :=
 (po_next m h (by omega)).mono fun x H' ⟨k, e1, e2, e3⟩ => ⟨by rw [e1, e3.one (hq.rd.next z.now)], e2⟩
theorem files_ok {N K : Nat} {z : PoS} {q : RpM} (m : PoM) (h : PoIs N z m) (hN : N ≤ 700000) (hq : RpOk K z q) (n g : Int) : Spec Tryz.prog 73 [ptrH m.p, rpV z q, .agg #[.int .i64 n, .int .i64 g]] (rpH z q ++ poH z m) (fun v H' => v = .bool true ∧ H' = rpH z q ++ poH z m) := by
 have hb := h.base
 refine Spec.of (E := [(0, ptrH m.p), (1, rpV z q), (2, .agg #[.int .i64 n, .int .i64 g])]) Tryz.func73 rfl (by kernel_rfl) Tryz.ntmps73 rfl rfl (fun w => ?_)
 refine WC_seq (WC_region ?_)
 refine WL_do rfl rfl rfl (D_box (cs := [_, _, _, _, _, _, _, _]) rfl rfl rfl) ?_
 rintro _ _ ⟨b1, rfl, rfl⟩
 refine WL_do rfl rfl rfl (D_box (cs := [_, _]) rfl rfl rfl) ?_
 rintro _ _ ⟨b2, rfl, rfl⟩
 refine WLa rfl (WL_nil (WQ_code (WC_seq (WC_region (WLa rfl ?_)))))
 refine WL_val rfl rfl rfl (R_loadA (vs := [_, _]) rfl ag30 rfl (mmC) rfl (atZ)) ?_
 refine WL_do rfl rfl rfl (D_call (po_value m h (by omega) n g) rfl rfl rfl rfl (pqC)) ?_
 rintro _ _ ⟨_, ⟨rfl, rfl⟩, rfl⟩
 refine WLa rfl (WLa rfl (WLa rfl (WLa rfl (WLa rfl (WL_nil (WQ_code (WC_seq (WC_region ?_))))))))
 refine WL_val rfl rfl rfl (R_fieldAddr rfl fa81_0 rfl) ?_
 refine WL_val rfl rfl rfl (R_loadA (vs := [_, _]) rfl ag71 rfl (mmC) rfl (atZ)) ?_
 refine WL_val rfl rfl rfl (R_loadA (vs := [_, _]) rfl ag30 rfl (mmC) rfl (atZ)) ?_
 refine WL_do rfl rfl rfl (D_call (t_get hq.al q.ow q.cw q.tw hq.wo n g) rfl rfl rfl rfl (pqC)) ?_
 rintro _ _ ⟨_, ⟨rfl, rfl⟩, rfl⟩
 refine WLa rfl (WLa rfl (WLa rfl (WLa rfl (WLa rfl (WL_nil (WQ_code (WC_seq (WC_seq (WC_region (WLa rfl (WLa rfl ?_)))))))))))
 refine WL_val rfl rfl rfl (R_neq rfl rfl rfl) ?_
 refine WL_set (s := 27) (v := .bool false) rfl (by simp) ?_
 refine WLa rfl (WLa rfl (WLa rfl ?_))
 refine WL_val rfl rfl rfl (R_neq rfl rfl rfl) ?_
 refine WL_set (s := 31) (v := .bool false) rfl (by simp) ?_
 refine WLa rfl (WL_nil (WQ_code ?_))
 refine WC_F rfl ?_
 refine WC_skip (WQ_code (WC_seq (WC_seq (WC_region (WLa rfl (WL_nil (WQ_code (WC_block ?_))))))))
 refine WC_loopF (G := Nat) [6, 11, 33, 34, 35, 36, 37, 38, 39, 40, 41, 42, 43, 44, 45] (fun j => j ≤ 4) (fun j => [(11, .int .i64 ((j : Int) - 1))]) (fun j => []) (fun j => 4 - j) (0) (Nat.zero_le _) leZ (pqC) ?_
 rintro j hj
 refine WC_seq (WC_seq (WC_region (WLa rfl ?_)))
 refine WL_val rfl rfl rfl (R_leq rfl rfl rfl) ?_
 refine WL_nil (WQ_code ?_)
 refine WC_dec rfl (fun c1 => ?_) (fun c1 => ?_)
 ·refine WC_skip (WQ_code (WC_seq (WC_block (WC_seq ?_))))
  refine WC_draw _ [(0, true), (1, true), (2, true), (3, true), (4, true), (5, true), (6, true), (7, true), (8, true)] followsMixed rfl rfl (by kernel_rfl) .all ?_
  refine WMa rfl ?_
  refine WM_val rfl rfl rfl rfl (R_loadA (vs := [_, _]) rfl ag30 rfl (mmC) rfl (atZ)) ?_
  refine WMa rfl ?_
  refine WM_call rfl (Spec.quiet (po_chk m h (by omega) n g ((j : Int) - 1))) rfl rfl rfl rfl rfl rfl rfl (pqC) ?_
  refine WM_val rfl rfl rfl rfl (R_loadA (vs := [_, _, _, _, _, _, _, _]) rfl ag81 rfl (mmC) rfl (atZ)) ?_
  refine WM_val rfl rfl rfl rfl (R_loadA (vs := [_, _]) rfl ag30 rfl (mmC) rfl (atZ)) ?_
  refine WMa rfl ?_
  refine WM_call rfl (Spec.quiet (rp_chk hb hq n g ((j : Int) - 1))) rfl rfl rfl rfl rfl rfl rfl (pqC) ?_
  refine WM_val rfl rfl rfl rfl (R_neq rfl rfl rfl) ?_
  refine WM_set (s := 45) (v := .bool false) rfl (by simp) ?_
  refine WM_nil (WQ_code ?_)
  refine WC_F rfl ?_
  refine WC_skip (WQ_code (WC_region (WLa rfl ?_)))
  refine WL_val rfl rfl rfl (R_addR (r := (((j + 1 : Nat) : Int) - 1)) rfl rfl rfl (by rw [IntWalk.i64_in _ (by omega)]; omega)) ?_
  refine WLa rfl (WL_nil ?_)
  refine WQ_nextF (j + 1) (by omega) (by omega) leZ (psZ) rfl (pqC)
 ·refine WC_exit (WQ_code (WC_seq (WC_region (WLa rfl (WL_nil (WQ_code (WC_ret ?_)))))))
  refine WQ_ret rfl rfl (.cons (.tmp rfl) .nil) rfl (by
    exact ⟨rfl, rfl⟩) (pqC)
theorem looks_ok {N K : Nat} {z : PoS} {q : RpM} (m : PoM) (h : PoIs N z m) (hN : N ≤ 700000) (hq : RpOk K z q) (hz : HInv z) (n g : Int) : Spec Tryz.prog 32 [ptrH m.p, rpV z q, .agg #[.int .i64 n, .int .i64 g]] (rpH z q ++ poH z m) (fun v H' => v = .bool true ∧ H' = rpH z q ++ poH z m) := by
 have hb := h.base
 have hrl := hb.rl
 have hs := hb.hs
 have hop : ∀ w ∈ z.s.W, OpN z.T w.at_.1 := fun w hw => (hz.opn w hw).1
 refine Spec.of (E := [(0, ptrH m.p), (1, rpV z q), (2, .agg #[.int .i64 n, .int .i64 g])]) Tryz.func32 rfl (by kernel_rfl) Tryz.ntmps32 rfl rfl (fun w => ?_)
 refine WC_seq (WC_region ?_)
 refine WL_do rfl rfl rfl (D_box (cs := [_, _, _, _, _, _, _, _]) rfl rfl rfl) ?_
 rintro _ _ ⟨b1, rfl, rfl⟩
 refine WL_do rfl rfl rfl (D_box (cs := [_, _]) rfl rfl rfl) ?_
 rintro _ _ ⟨b2, rfl, rfl⟩
 refine WLa rfl (WL_nil (WQ_code (WC_seq (WC_seq ?_))))
 refine WC_draw _ [(0, true), (1, true), (2, true), (3, true), (4, true), (5, true), (6, true), (7, true), (8, true), (9, true), (10, true), (11, true), (12, true), (13, true), (14, true), (15, true), (17, true), (18, true), (19, true), (20, true), (16, false), (21, false), (22, true), (23, true), (24, true), (25, true), (26, true), (27, true), (28, true), (29, true), (30, true)] followsMixed rfl rfl (by kernel_rfl) .all ?_
 refine WMa rfl ?_
 refine WM_call rfl (Spec.quiet (po_now m h (by omega))) rfl rfl rfl rfl rfl rfl rfl (pqC) ?_
 refine WM_val rfl rfl rfl rfl (R_fieldAddr rfl fa81_1 rfl) ?_
 refine WM_val rfl rfl rfl rfl (R_fieldAddr rfl fa74_0 rfl) ?_
 refine WM_val rfl rfl rfl rfl (R_load rfl sc28 rfl (mmC) rfl) ?_
 refine WM_val rfl rfl rfl rfl (R_neq rfl rfl rfl) ?_
 refine WM_set (s := 29) (v := .bool false) rfl (by simp) ?_
 refine WMa rfl (WMa rfl ?_)
 refine WM_call rfl (Spec.quiet (po_nextR m h hN hq)) rfl rfl rfl rfl rfl rfl rfl (pqC) ?_
 refine WM_val rfl rfl rfl rfl (R_fieldAddr rfl fa81_1 rfl) ?_
 refine WM_val rfl rfl rfl rfl (R_loadA (vs := [_, _]) rfl ag74 rfl (mmC) rfl (atZ)) ?_
 refine WM_call rfl (Spec.quiet (Dr.rnext_ok q.D q.od q.cd q.td hq.rd hq.od hb.nw)) rfl rfl rfl rfl rfl rfl rfl (pqC) ?_
 refine WM_val rfl rfl rfl rfl (R_neq rfl rfl rfl) ?_
 refine WM_set (s := 36) (v := .bool false) rfl (by simp) ?_
 refine WMa rfl (WMa rfl (WMa rfl ?_))
 refine WM_val rfl rfl rfl rfl (R_fieldAddr rfl fa81_2 rfl) ?_
 refine WM_val rfl rfl rfl rfl (R_fieldAddr rfl fa79_0 rfl) ?_
 refine WM_val rfl rfl rfl rfl (R_fieldAddr rfl fa76_1 rfl) ?_
 refine WM_val rfl rfl rfl rfl (R_load rfl sc34 rfl (mmC) rfl) ?_
 refine WM_do rfl rfl rfl rfl (D_call (po_ready m h (by omega)) rfl rfl rfl rfl (pqC)) ?_
 rintro _ _ ⟨_, ⟨oR, cR, tR, rfl, wR, rfl⟩, rfl⟩
 refine ⟨⟨_, pqC⟩, ?_⟩
 refine WM_do rfl rfl rfl rfl (D_call (same_okB z.s.qm oR cR tR q.l.oq q.l.qc q.l.tq wR hq.l.oq) rfl rfl rfl rfl (pqC)) ?_
 rintro _ _ ⟨_, ⟨rfl, rfl⟩, rfl⟩
 refine ⟨⟨_, pqC⟩, ?_⟩
 refine WM_val rfl rfl rfl rfl (R_not rfl rfl) ?_
 refine WMa rfl (WMa rfl (WMa rfl ?_))
 refine WM_val rfl rfl rfl rfl (R_loadA (vs := [_, _, _, _, _, _, _, _]) rfl ag81 rfl (mmC) rfl (atZ)) ?_
 refine WM_val rfl rfl rfl rfl (R_loadA (vs := [_, _]) rfl ag30 rfl (mmC) rfl (atZ)) ?_
 refine WM_call rfl (Spec.quiet (files_ok m h hN hq n g)) rfl rfl rfl rfl rfl rfl rfl (pqC) ?_
 refine WM_val rfl rfl rfl rfl (R_not rfl rfl) ?_
 refine WMa rfl (WM_nil (WQ_code ?_))
 refine WC_F rfl ?_
 refine WC_skip (WQ_code (WC_seq (WC_seq (WC_region (WLa rfl (WL_nil (WQ_code (WC_block ?_))))))))
 refine WC_loopF (G := Nat) [6, 7, 8, 9, 10, 11, 12, 13, 14, 15, 16, 17, 18, 19, 20, 21, 55, 56, 57, 58, 59, 60, 61, 62, 63, 64, 65, 66, 67, 68, 69, 70, 71, 72, 73, 74, 75, 76, 77, 78, 79, 80, 81, 82, 83, 84, 85, 86, 87, 88, 89, 90, 91, 92, 93, 94, 95, 96, 97, 98, 99, 100, 101, 102, 103, 104, 105, 106, 107, 108, 109, 110, 111, 112, 113, 114, 115, 116, 117, 118, 119, 120, 121, 122, 123, 124, 125, 126, 127, 128, 129, 130, 131, 132, 133, 134] (fun j => j ≤ z.R.length + 2) (fun j => [(7, .int .i64 ((j : Int) - 1))]) (fun j => []) (fun j => z.R.length + 2 - j) (0) (Nat.zero_le _) leZ (pqC) ?_
 rintro j hj
 refine WC_seq (WC_seq (WC_region (WLa rfl ?_)))
 refine WL_val rfl rfl rfl (R_fieldAddr rfl fa81_3 rfl) ?_
 refine WL_val rfl rfl rfl (R_load rfl sc34 rfl (mmC) rfl) ?_
 refine WL_val rfl rfl rfl (R_len rfl Tryz.underlying34 rfl) ?_
 refine WL_val rfl rfl rfl (R_leq rfl rfl rfl) ?_
 refine WL_nil (WQ_code ?_)
 refine WC_dec rfl (fun c1 => ?_) (fun c1 => ?_)
 ·refine WC_skip (WQ_code (WC_seq (WC_block (WC_seq (WC_region (WLa rfl (WLa rfl ?_)))))))
  refine WL_do rfl rfl rfl (D_call (po_state m h (by omega) ((j : Int) - 1)) rfl rfl rfl rfl (pqC)) ?_
  rintro _ _ ⟨_, ⟨rfl, rfl⟩, rfl⟩
  refine WLa rfl (WLa rfl (WLa rfl (WLa rfl (WLa rfl (WL_nil (WQ_code (WC_seq (WC_region ?_))))))))
  refine WL_val rfl rfl rfl (R_fieldAddr rfl fa81_2 rfl) ?_
  refine WL_val rfl rfl rfl (R_fieldAddr rfl fa79_0 rfl) ?_
  refine WL_val rfl rfl rfl (R_loadA (vs := [_, _]) rfl ag76 rfl (mmC) rfl (atZ)) ?_
  refine WLa rfl ?_
  refine WL_do rfl rfl rfl (D_call (rstate_ok z.s.sm z.s.qm q.l.os q.l.sc q.l.ts q.l.oq q.l.qc q.l.tq hq.l.os hq.l.oq ((j : Int) - 1)) rfl rfl rfl rfl (pqC)) ?_
  rintro _ _ ⟨_, ⟨rfl, rfl⟩, rfl⟩
  refine WLa rfl (WLa rfl (WLa rfl (WLa rfl (WLa rfl (WL_nil (WQ_code (WC_seq (WC_region (WLa rfl (WLa rfl ?_))))))))))
  refine WL_do rfl rfl rfl (D_call (po_rsn m h (by omega) ((j : Int) - 1)) rfl rfl rfl rfl (pqC)) ?_
  rintro _ _ ⟨_, ⟨rfl, rfl⟩, rfl⟩
  refine WLa rfl (WLa rfl (WLa rfl (WLa rfl (WLa rfl (WL_nil (WQ_code (WC_seq (WC_region ?_))))))))
  refine WL_val rfl rfl rfl (R_loadA (vs := [_, _, _, _, _, _, _, _]) rfl ag81 rfl (mmC) rfl (atZ)) ?_
  refine WLa rfl ?_
  refine WL_do rfl rfl rfl (D_call (rp_rsn hb hq ((j : Int) - 1)) rfl rfl rfl rfl (pqC)) ?_
  rintro _ _ ⟨_, ⟨rfl, rfl⟩, rfl⟩
  refine WLa rfl (WLa rfl (WLa rfl (WLa rfl (WLa rfl (WL_nil (WQ_code (WC_seq (WC_region (WLa rfl (WLa rfl ?_))))))))))
  refine WL_do rfl rfl rfl (D_call (po_where m h (by omega) ((j : Int) - 1)) rfl rfl rfl rfl (pqC)) ?_
  rintro _ _ ⟨_, ⟨rfl, rfl⟩, rfl⟩
  refine WLa rfl (WLa rfl (WLa rfl (WLa rfl ?_)))
  refine WL_do rfl rfl rfl (D_alloc rfl zv30) ?_
  rintro _ _ ⟨b3, rfl, rfl⟩
  refine WL_do0 rfl rfl (D_store (vs := [_, _]) rfl Tryz.sizeOf30 rfl rfl rfl rfl rfl (plC) (Nat.le_of_ble_eq_true rfl)) ?_
  rintro _ _ rfl
  refine WLa rfl (WLa rfl (WL_nil (WQ_code (WC_seq (WC_region ?_)))))
  refine WL_val rfl rfl rfl (R_loadA (vs := [_, _, _, _, _, _, _, _]) rfl ag81 rfl (mmC) rfl (atZ)) ?_
  refine WLa rfl ?_
  refine WL_do rfl rfl rfl (D_call (rp_where hb hq hop ((j : Int) - 1)) rfl rfl rfl rfl (pqC)) ?_
  rintro _ _ ⟨_, ⟨rfl, rfl⟩, rfl⟩
  refine WLa rfl (WLa rfl (WLa rfl (WLa rfl ?_)))
  refine WL_do rfl rfl rfl (D_alloc rfl zv30) ?_
  rintro _ _ ⟨b4, rfl, rfl⟩
  refine WL_do0 rfl rfl (D_store (vs := [_, _]) rfl Tryz.sizeOf30 rfl rfl rfl rfl rfl (plC) (Nat.le_of_ble_eq_true rfl)) ?_
  rintro _ _ rfl
  refine WLa rfl (WLa rfl (WL_nil (WQ_code (WC_seq (WC_region (WLa rfl (WLa rfl ?_)))))))
  refine WL_val rfl rfl rfl (R_neq rfl rfl rfl) ?_
  refine WL_set (s := 104) (v := .bool false) rfl (by simp) ?_
  refine WLa rfl (WLa rfl (WLa rfl ?_))
  refine WL_val rfl rfl rfl (R_neq rfl rfl rfl) ?_
  refine WL_set (s := 108) (v := .bool false) rfl (by simp) ?_
  refine WLa rfl (WLa rfl (WLa rfl (WLa rfl ?_)))
  refine WL_val rfl rfl rfl (R_neq rfl rfl rfl) ?_
  refine WL_set (s := 113) (v := .bool false) rfl (by simp) ?_
  refine WLa rfl (WLa rfl (WLa rfl (WLa rfl ?_)))
  refine WL_val rfl rfl rfl (R_neq rfl rfl rfl) ?_
  refine WL_set (s := 118) (v := .bool false) rfl (by simp) ?_
  refine WLa rfl (WLa rfl ?_)
  refine WL_val rfl rfl rfl (R_loadA (vs := [_, _]) rfl ag30 rfl (mmC) rfl (atZ)) ?_
  refine WL_val rfl rfl rfl (R_loadA (vs := [_, _]) rfl ag30 rfl (mmC) rfl (atZ)) ?_
  refine WL_val rfl rfl rfl (R_sne30 rfl rfl rfl rfl) ?_
  refine WL_set (s := 123) (v := .bool false) rfl (by simp) ?_
  refine WLa rfl (WLa rfl (WLa rfl (WLa rfl ?_)))
  refine WL_val rfl rfl rfl (R_neq rfl rfl rfl) ?_
  refine WL_set (s := 128) (v := .bool false) rfl (by simp) ?_
  refine WLa rfl (WLa rfl (WLa rfl (WLa rfl ?_)))
  refine WL_val rfl rfl rfl (R_neq rfl rfl rfl) ?_
  refine WL_set (s := 133) (v := .bool false) rfl (by simp) ?_
  refine WLa rfl (WL_nil (WQ_code ?_))
  refine WC_F rfl ?_
  refine WC_skip (WQ_code (WC_region (WLa rfl ?_)))
  refine WL_val rfl rfl rfl (R_addR (r := (((j + 1 : Nat) : Int) - 1)) rfl rfl rfl (by rw [IntWalk.i64_in _ (by omega)]; omega)) ?_
  refine WLa rfl (WL_nil ?_)
  refine WQ_nextF (j + 1) (by omega) (by omega) leZ (psZ) rfl (pqC)
 ·refine WC_exit (WQ_code (WC_seq (WC_seq (WC_region ?_))))
  refine WL_val rfl rfl rfl (R_fieldAddr rfl fa81_0 rfl) ?_
  refine WL_val rfl rfl rfl (R_fieldAddr rfl fa71_1 rfl) ?_
  refine WL_val rfl rfl rfl (R_load rfl sc69 rfl (mmC) rfl) ?_
  refine WL_val rfl rfl rfl (R_len rfl Tryz.underlying69 rfl) ?_
  refine WLa rfl (WL_nil (WQ_code (WC_block ?_)))
  have hwo2 := Nat.le_trans hq.wo.le hq.wo.big
  refine WC_loopF (G := Nat) [6, 23, 139, 140, 141, 142, 143, 144, 145, 146, 147, 148, 149] (fun i => i ≤ q.W.length) (fun i => [(139, .int .i64 (i : Int))]) (fun i => []) (fun i => q.W.length - i) (0) (Nat.zero_le _) leZ (pqC) ?_
  rintro i hi
  refine WC_seq (WC_region ?_)
  refine WL_val rfl rfl rfl (R_lss rfl rfl rfl) ?_
  refine WL_nil (WQ_code (WC_seq ?_))
  refine WC_dec rfl (fun c2 => ?_) (fun c2 => ?_)
  ·refine WC_skip (WQ_code (WC_seq (WC_block (WC_seq (WC_region ?_)))))
   obtain ⟨x, hx⟩ := exE (T := q.W) (i := i) (by omega)
   obtain ⟨wb, hwb⟩ := hq.wo.some_of (by omega)
   have hwo2 := Nat.le_trans hq.wo.le hq.wo.big
   refine WL_val rfl rfl rfl (R_idxO hwb rfl Tryz.underlying69 Tryz.sizeOf143 rfl rfl (by omega)) ?_
   refine WL_val rfl rfl rfl (R_loadAO (vs := [.int .i64 x.n, .int .i64 x.gen, .int .i64 x.value, .bool x.closed]) hwb rfl ag143 rfl (mmC) rfl (fm_at0 Slt.encL4 hx (j := 0) (vs := Slt.encL x) (fun j v h => by rw [Nat.zero_add]; exact h) (Nat.le_refl _))) ?_
   refine WL_do rfl rfl rfl (D_alloc rfl zv143) ?_
   rintro _ _ ⟨b5, rfl, rfl⟩
   refine WL_do0 rfl rfl (D_store (vs := [_, _, _, _]) rfl Tryz.sizeOf143 rfl rfl rfl rfl rfl (plC) (Nat.le_of_ble_eq_true rfl)) ?_
   rintro _ _ rfl
   refine WL_nil (WQ_code (WC_seq (WC_region (WLa rfl ?_))))
   refine WL_val rfl rfl rfl (R_loadA (vs := [_, _, _, _, _, _, _, _]) rfl ag81 rfl (mmC) rfl (atZ)) ?_
   refine WL_val rfl rfl rfl (R_fieldAddr rfl fa143_0 rfl) ?_
   refine WL_val rfl rfl rfl (R_loadA (vs := [_, _]) rfl ag30 rfl (mmC) rfl (atZ)) ?_
   refine WL_do rfl rfl rfl (D_call (files_ok m h hN hq x.n x.gen) rfl rfl rfl rfl (pqC)) ?_
   rintro _ _ ⟨_, ⟨rfl, rfl⟩, rfl⟩
   refine WL_val rfl rfl rfl (R_not rfl rfl) ?_
   refine WL_nil (WQ_code ?_)
   refine WC_F rfl ?_
   refine WC_skip (WQ_code (WC_region ?_))
   refine WL_val rfl rfl rfl (R_add rfl rfl rfl (by omega)) ?_
   refine WLa rfl (WL_nil ?_)
   refine WQ_nextF (i + 1) (by omega) (by omega) leZ (psZ) rfl (pqC)
  ·refine WC_exit (WQ_code (WC_seq (WC_region (WLa rfl (WL_nil (WQ_code (WC_ret ?_)))))))
   refine WQ_ret rfl rfl (.cons (.tmp rfl) .nil) rfl (by
     exact ⟨rfl, rfl⟩) (pqC)
end Go.Proofs.YtbkdebnkoidicaaGreat
end
section
set_option linter.unusedVariables false
set_option maxRecDepth 20000
set_option maxHeartbeats 16000000
namespace Go.Proofs.YtbkdebnkoidicaaGreat
theorem rp_new_bad (k : Int) (now : Nat) (h3 : now ≤ 18446744073709551615) (hb : k < 1 ∨ 64 < k ∨ now = 18446744073709551615) : Spec Tryz.prog 30 [.int .i64 k, .int .u64 (now : Int)] [] (fun v H' => v = .tuple #[.agg #[.int .i64 0, .slice none 0 0, .int .u64 0, .slice none 0 0, .slice none 0 0, .slice none 0 0, .slice none 0 0, .slice none 0 0], .int .i64 2] ∧ H' = []) := by
 by_cases hn : now = 18446744073709551615
 ·subst hn
  by_cases hk : k < 1 ∨ 64 < k
  ·refine Spec.of (E := [(0, .int .i64 k), (1, .int .u64 ((18446744073709551615 : Nat) : Int))]) Tryz.func30 rfl (by kernel_rfl) Tryz.ntmps30 rfl rfl (fun w => ?_)
   refine WC_seq (WC_region ?_)
   refine WL_do rfl rfl rfl (D_alloc rfl zv81) ?_
   rintro _ _ ⟨b1, rfl, rfl⟩
   refine WLa rfl (WL_nil (WQ_code (WC_seq (WC_region ?_))))
   refine WL_do rfl rfl rfl (D_call (Slt.rnew_ok 128 (by decide) (by decide)) rfl rfl rfl rfl (pqC)) ?_
   rintro _ _ ⟨_, ⟨rfl, rfl⟩, rfl⟩
   refine WLa rfl (WLa rfl (WLa rfl ?_))
   refine WL_do rfl rfl rfl (D_alloc rfl zv71) ?_
   rintro _ _ ⟨b2, rfl, rfl⟩
   refine WL_do0 rfl rfl (D_store (vs := [_, _]) rfl Tryz.sizeOf71 rfl rfl rfl rfl rfl (plC) (Nat.le_of_ble_eq_true rfl)) ?_
   rintro _ _ rfl
   refine WLa rfl (WL_nil (WQ_code (WC_seq (WC_region (WLa rfl ?_)))))
   refine WL_do rfl rfl rfl (D_call (Dr.rnew_bad) rfl rfl rfl rfl (pqC)) ?_
   rintro _ _ ⟨_, ⟨rfl, rfl⟩, rfl⟩
   refine WLa rfl (WLa rfl (WLa rfl ?_))
   refine WL_do rfl rfl rfl (D_alloc rfl zv74) ?_
   rintro _ _ ⟨b3, rfl, rfl⟩
   refine WL_do0 rfl rfl (D_store (vs := [_, _]) rfl Tryz.sizeOf74 rfl rfl rfl rfl rfl (plC) (Nat.le_of_ble_eq_true rfl)) ?_
   rintro _ _ rfl
   refine WLa rfl (WL_nil (WQ_code (WC_seq (WC_region (WLa rfl ?_)))))
   refine WL_do rfl rfl rfl (D_call (rf_new_bad k hk) rfl rfl rfl rfl (pqC)) ?_
   rintro _ _ ⟨_, ⟨rfl, rfl⟩, rfl⟩
   refine WLa rfl (WLa rfl (WLa rfl ?_))
   refine WL_do rfl rfl rfl (D_alloc rfl zv79) ?_
   rintro _ _ ⟨b4, rfl, rfl⟩
   refine WL_do0 rfl rfl (D_store (vs := [_, _, _]) rfl Tryz.sizeOf79 rfl rfl rfl rfl rfl (plC) (Nat.le_of_ble_eq_true rfl)) ?_
   rintro _ _ rfl
   refine WLa rfl (WL_nil (WQ_code (WC_seq (WC_seq (WC_region (WLa rfl ?_))))))
   refine WL_val rfl rfl rfl (R_neq rfl rfl rfl) ?_
   refine WL_set (s := 27) (v := .bool true) rfl (by simp) ?_
   refine WLa rfl ?_
   refine WL_skip rfl rfl rfl ?_
   refine WL_skip rfl rfl rfl ?_
   refine WLa rfl (WL_nil (WQ_code ?_))
   refine WC_T rfl ?_
   refine WC_seq (WC_region ?_)
   refine WL_val rfl rfl rfl (R_build rfl zv81 pl81 rfl rfl) ?_
   refine WL_do0 rfl rfl (D_store (vs := [_, _, _, _, _, _, _, _]) rfl Tryz.sizeOf81 rfl rfl rfl rfl rfl (plC) (Nat.le_of_ble_eq_true rfl)) ?_
   rintro _ _ rfl
   refine WLa rfl (WL_nil (WQ_code (WC_ret ?_)))
   refine WQ_ret rfl rfl (.cons (.cell (vs := [_, _, _, _, _, _, _, _]) rfl ag81 (mmC) rfl (atZ)) (.cons (.tmp rfl) .nil)) rfl (by
     exact ⟨rfl, rfl⟩) (pqC)
  ·obtain ⟨k, rfl⟩ := Int.eq_ofNat_of_zero_le (show 0 ≤ k by omega)
   refine Spec.of (E := [(0, .int .i64 (k : Int)), (1, .int .u64 ((18446744073709551615 : Nat) : Int))]) Tryz.func30 rfl (by kernel_rfl) Tryz.ntmps30 rfl rfl (fun w => ?_)
   refine WC_seq (WC_region ?_)
   refine WL_do rfl rfl rfl (D_alloc rfl zv81) ?_
   rintro _ _ ⟨b1, rfl, rfl⟩
   refine WLa rfl (WL_nil (WQ_code (WC_seq (WC_region ?_))))
   refine WL_do rfl rfl rfl (D_call (Slt.rnew_ok 128 (by decide) (by decide)) rfl rfl rfl rfl (pqC)) ?_
   rintro _ _ ⟨_, ⟨rfl, rfl⟩, rfl⟩
   refine WLa rfl (WLa rfl (WLa rfl ?_))
   refine WL_do rfl rfl rfl (D_alloc rfl zv71) ?_
   rintro _ _ ⟨b2, rfl, rfl⟩
   refine WL_do0 rfl rfl (D_store (vs := [_, _]) rfl Tryz.sizeOf71 rfl rfl rfl rfl rfl (plC) (Nat.le_of_ble_eq_true rfl)) ?_
   rintro _ _ rfl
   refine WLa rfl (WL_nil (WQ_code (WC_seq (WC_region (WLa rfl ?_)))))
   refine WL_do rfl rfl rfl (D_call (Dr.rnew_bad) rfl rfl rfl rfl (pqC)) ?_
   rintro _ _ ⟨_, ⟨rfl, rfl⟩, rfl⟩
   refine WLa rfl (WLa rfl (WLa rfl ?_))
   refine WL_do rfl rfl rfl (D_alloc rfl zv74) ?_
   rintro _ _ ⟨b3, rfl, rfl⟩
   refine WL_do0 rfl rfl (D_store (vs := [_, _]) rfl Tryz.sizeOf74 rfl rfl rfl rfl rfl (plC) (Nat.le_of_ble_eq_true rfl)) ?_
   rintro _ _ rfl
   refine WLa rfl (WL_nil (WQ_code (WC_seq (WC_region (WLa rfl ?_)))))
   refine WL_do rfl rfl rfl (D_call (rf_new k (by omega) (by omega)) rfl rfl rfl rfl (pqC)) ?_
   rintro _ _ ⟨_, ⟨r1, rfl, rfl, hr1⟩, rfl⟩
   refine WLa rfl (WLa rfl (WLa rfl ?_))
   refine WL_do rfl rfl rfl (D_alloc rfl zv79) ?_
   rintro _ _ ⟨b4, rfl, rfl⟩
   refine WL_do0 rfl rfl (D_store (vs := [_, _, _]) rfl Tryz.sizeOf79 rfl rfl rfl rfl rfl (plC) (Nat.le_of_ble_eq_true rfl)) ?_
   rintro _ _ rfl
   refine WLa rfl (WL_nil (WQ_code (WC_seq (WC_seq (WC_region (WLa rfl ?_))))))
   refine WL_val rfl rfl rfl (R_neq rfl rfl rfl) ?_
   refine WL_set (s := 27) (v := .bool true) rfl (by simp) ?_
   refine WLa rfl ?_
   refine WL_skip rfl rfl rfl ?_
   refine WL_skip rfl rfl rfl ?_
   refine WLa rfl (WL_nil (WQ_code ?_))
   refine WC_T rfl ?_
   refine WC_seq (WC_region ?_)
   refine WL_val rfl rfl rfl (R_build rfl zv81 pl81 rfl rfl) ?_
   refine WL_do0 rfl rfl (D_store (vs := [_, _, _, _, _, _, _, _]) rfl Tryz.sizeOf81 rfl rfl rfl rfl rfl (plC) (Nat.le_of_ble_eq_true rfl)) ?_
   rintro _ _ rfl
   refine WLa rfl (WL_nil (WQ_code (WC_ret ?_)))
   refine WQ_ret rfl rfl (.cons (.cell (vs := [_, _, _, _, _, _, _, _]) rfl ag81 (mmC) rfl (atZ)) (.cons (.tmp rfl) .nil)) rfl (by
     exact ⟨rfl, rfl⟩) (pqC)
 ·have hk : k < 1 ∨ 64 < k := by omega
  refine Spec.of (E := [(0, .int .i64 k), (1, .int .u64 (now : Int))]) Tryz.func30 rfl (by kernel_rfl) Tryz.ntmps30 rfl rfl (fun w => ?_)
  refine WC_seq (WC_region ?_)
  refine WL_do rfl rfl rfl (D_alloc rfl zv81) ?_
  rintro _ _ ⟨b1, rfl, rfl⟩
  refine WLa rfl (WL_nil (WQ_code (WC_seq (WC_region ?_))))
  refine WL_do rfl rfl rfl (D_call (Slt.rnew_ok 128 (by decide) (by decide)) rfl rfl rfl rfl (pqC)) ?_
  rintro _ _ ⟨_, ⟨rfl, rfl⟩, rfl⟩
  refine WLa rfl (WLa rfl (WLa rfl ?_))
  refine WL_do rfl rfl rfl (D_alloc rfl zv71) ?_
  rintro _ _ ⟨b2, rfl, rfl⟩
  refine WL_do0 rfl rfl (D_store (vs := [_, _]) rfl Tryz.sizeOf71 rfl rfl rfl rfl rfl (plC) (Nat.le_of_ble_eq_true rfl)) ?_
  rintro _ _ rfl
  refine WLa rfl (WL_nil (WQ_code (WC_seq (WC_region (WLa rfl ?_)))))
  refine WL_do rfl rfl rfl (D_call (Dr.rnew_ok now (by omega)) rfl rfl rfl rfl (pqC)) ?_
  rintro _ _ ⟨_, ⟨rfl, rfl⟩, rfl⟩
  refine WLa rfl (WLa rfl (WLa rfl ?_))
  refine WL_do rfl rfl rfl (D_alloc rfl zv74) ?_
  rintro _ _ ⟨b3, rfl, rfl⟩
  refine WL_do0 rfl rfl (D_store (vs := [_, _]) rfl Tryz.sizeOf74 rfl rfl rfl rfl rfl (plC) (Nat.le_of_ble_eq_true rfl)) ?_
  rintro _ _ rfl
  refine WLa rfl (WL_nil (WQ_code (WC_seq (WC_region (WLa rfl ?_)))))
  refine WL_do rfl rfl rfl (D_call (rf_new_bad k hk) rfl rfl rfl rfl (pqC)) ?_
  rintro _ _ ⟨_, ⟨rfl, rfl⟩, rfl⟩
  refine WLa rfl (WLa rfl (WLa rfl ?_))
  refine WL_do rfl rfl rfl (D_alloc rfl zv79) ?_
  rintro _ _ ⟨b4, rfl, rfl⟩
  refine WL_do0 rfl rfl (D_store (vs := [_, _, _]) rfl Tryz.sizeOf79 rfl rfl rfl rfl rfl (plC) (Nat.le_of_ble_eq_true rfl)) ?_
  rintro _ _ rfl
  refine WLa rfl (WL_nil (WQ_code (WC_seq (WC_seq (WC_region (WLa rfl ?_))))))
  refine WL_val rfl rfl rfl (R_neq rfl rfl rfl) ?_
  refine WL_set (s := 27) (v := .bool false) rfl (by simp) ?_
  refine WLa rfl (WLa rfl ?_)
  refine WL_val rfl rfl rfl (R_neq rfl rfl rfl) ?_
  refine WL_set (s := 30) (v := .bool true) rfl (by simp) ?_
  refine WLa rfl (WL_nil (WQ_code ?_))
  refine WC_T rfl ?_
  refine WC_seq (WC_region ?_)
  refine WL_val rfl rfl rfl (R_build rfl zv81 pl81 rfl rfl) ?_
  refine WL_do0 rfl rfl (D_store (vs := [_, _, _, _, _, _, _, _]) rfl Tryz.sizeOf81 rfl rfl rfl rfl rfl (plC) (Nat.le_of_ble_eq_true rfl)) ?_
  rintro _ _ rfl
  refine WLa rfl (WL_nil (WQ_code (WC_ret ?_)))
  refine WQ_ret rfl rfl (.cons (.cell (vs := [_, _, _, _, _, _, _, _]) rfl ag81 (mmC) rfl (atZ)) (.cons (.tmp rfl) .nil)) rfl (by
    exact ⟨rfl, rfl⟩) (pqC)
structure PlW11 where
 k : Nat
 N : Nat
 K : Nat
 z : PoS
 m : PoM
 q : RpM
theorem plays_long (m : Int) (now : Nat) (oa : Option Addr) (n c : Nat) (hb : (n : Int) ≤ 9223372036854775807) (h : 70 < n) : Spec Tryz.prog 6 [.int .i64 m, .int .u64 (now : Int), .slice oa n c] [] (fun r H' => r = .bool true ∧ H' = []) := by
 refine Spec.of (E := [(0, .int .i64 m), (1, .int .u64 (now : Int)), (2, .slice oa n c)]) Tryz.func6 rfl (by kernel_rfl) Tryz.ntmps6 rfl rfl (fun w => ?_)
 refine WC_seq (WC_region (WLa rfl (WL_nil (WQ_code (WC_seq (WC_seq (WC_region (WLa rfl ?_))))))))
 refine WL_val rfl rfl rfl (R_len rfl Tryz.underlying52 rfl) ?_
 refine WL_val rfl rfl rfl (R_gtr rfl rfl rfl) ?_
 refine WL_nil (WQ_code ?_)
 refine WC_dT rfl (by omega) ?_
 refine WC_seq (WC_region ?_)
 refine WL_do rfl rfl rfl (D_call (known_ok) rfl rfl rfl rfl (pqC)) ?_
 rintro _ _ ⟨_, ⟨rfl, rfl⟩, rfl⟩
 refine WLa rfl (WL_nil (WQ_code (WC_ret ?_)))
 refine WQ_ret rfl rfl (.cons (.tmp rfl) .nil) rfl (by
   exact ⟨rfl, rfl⟩) (pqC)
theorem plays_bad (m : Int) (now : Nat) (h3 : now ≤ 18446744073709551615) (oa : Option Addr) (n c : Nat) (h : n ≤ 70) (hk : m < 1 ∨ 64 < m ∨ now = 18446744073709551615) : Spec Tryz.prog 6 [.int .i64 m, .int .u64 (now : Int), .slice oa n c] [] (fun r H' => r = .bool true ∧ H' = []) := by
 refine Spec.of (E := [(0, .int .i64 m), (1, .int .u64 (now : Int)), (2, .slice oa n c)]) Tryz.func6 rfl (by kernel_rfl) Tryz.ntmps6 rfl rfl (fun w => ?_)
 refine WC_seq (WC_region (WLa rfl (WL_nil (WQ_code (WC_seq (WC_seq (WC_region (WLa rfl ?_))))))))
 refine WL_val rfl rfl rfl (R_len rfl Tryz.underlying52 rfl) ?_
 refine WL_val rfl rfl rfl (R_gtr rfl rfl rfl) ?_
 refine WL_nil (WQ_code ?_)
 refine WC_dF rfl (by omega) ?_
 refine WC_skip (WQ_code (WC_seq (WC_region (WLa rfl (WLa rfl ?_)))))
 refine WL_do rfl rfl rfl (D_call (po_new_bad m now h3 hk) rfl rfl rfl rfl (pqC)) ?_
 rintro _ _ ⟨_, ⟨rfl, rfl⟩, rfl⟩
 refine WLa rfl (WLa rfl (WLa rfl (WLa rfl (WLa rfl (WL_nil (WQ_code (WC_seq (WC_region (WLa rfl (WLa rfl ?_))))))))))
 refine WL_do rfl rfl rfl (D_call (rp_new_bad m now h3 hk) rfl rfl rfl rfl (pqC)) ?_
 rintro _ _ ⟨_, ⟨rfl, rfl⟩, rfl⟩
 refine WLa rfl (WLa rfl (WLa rfl ?_))
 refine WL_do rfl rfl rfl (D_alloc rfl zv81) ?_
 rintro _ _ ⟨b1, rfl, rfl⟩
 refine WL_do0 rfl rfl (D_store (vs := [_, _, _, _, _, _, _, _]) rfl Tryz.sizeOf81 rfl rfl rfl rfl rfl (plC) (Nat.le_of_ble_eq_true rfl)) ?_
 rintro _ _ rfl
 refine WLa rfl (WL_nil (WQ_code (WC_seq (WC_seq (WC_region (WLa rfl (WLa rfl ?_)))))))
 refine WL_val rfl rfl rfl (R_neq rfl rfl rfl) ?_
 refine WL_set (s := 32) (v := .bool false) rfl (by simp) ?_
 refine WLa rfl (WLa rfl ?_)
 refine WL_val rfl rfl rfl (R_ptrEqNil rfl Tryz.underlying23 rfl) ?_
 refine WLa rfl ?_
 refine WL_val rfl rfl rfl (R_neq rfl rfl rfl) ?_
 refine WL_set (s := 37) (v := .bool true) rfl (by simp) ?_
 refine WL_val rfl rfl rfl (R_boolNe rfl Tryz.underlying4 rfl rfl) ?_
 refine WL_set (s := 38) (v := .bool false) rfl (by rfl) ?_
 refine WLa rfl (WL_nil (WQ_code ?_))
 refine WC_F rfl ?_
 refine WC_skip (WQ_code (WC_seq (WC_seq (WC_region (WLa rfl ?_)))))
 refine WL_val rfl rfl rfl (R_ptrEqNil rfl Tryz.underlying23 rfl) ?_
 refine WL_nil (WQ_code ?_)
 refine WC_T rfl ?_
 refine WC_seq (WC_region ?_)
 refine WL_do rfl rfl rfl (D_call (known_ok) rfl rfl rfl rfl (pqC)) ?_
 rintro _ _ ⟨_, ⟨rfl, rfl⟩, rfl⟩
 refine WLa rfl (WL_nil (WQ_code (WC_ret ?_)))
 refine WQ_ret rfl rfl (.cons (.tmp rfl) .nil) rfl (by
   exact ⟨rfl, rfl⟩) (pqC)
theorem plays_ok (M : Nat) (hm1 : 1 ≤ M) (hm2 : M ≤ 64) (now : Nat) (hnow : now < 18446744073709551615) (oa : Option Addr) (ent : Ent) (l : List Ac11) (c : Nat) (ha : Arg oa ent 7 encA11 l) (hOk : ∀ a ∈ l, a.tm ≤ 18446744073709551615) (h : l.length ≤ 70) : Spec Tryz.prog 6 [.int .i64 (M : Int), .int .u64 (now : Int), .slice oa l.length c] [ent] (fun r H' => r = .bool true ∧ H' = [ent]) := by
 refine Spec.of (E := [(0, .int .i64 (M : Int)), (1, .int .u64 (now : Int)), (2, .slice oa l.length c)]) Tryz.func6 rfl (by kernel_rfl) Tryz.ntmps6 rfl rfl (fun w => ?_)
 refine WC_seq (WC_region (WLa rfl (WL_nil (WQ_code (WC_seq (WC_seq (WC_region (WLa rfl ?_))))))))
 refine WL_val rfl rfl rfl (R_len rfl Tryz.underlying52 rfl) ?_
 refine WL_val rfl rfl rfl (R_gtr rfl rfl rfl) ?_
 refine WL_nil (WQ_code ?_)
 refine WC_dF rfl (by omega) ?_
 refine WC_skip (WQ_code (WC_seq (WC_region (WLa rfl (WLa rfl ?_)))))
 refine WL_do rfl rfl rfl (D_call (po_new M now hm1 hm2 hnow) rfl rfl rfl rfl (pqC)) ?_
 rintro _ _ ⟨_, ⟨m0, rfl, rfl, g0⟩, rfl⟩
 refine WLa rfl (WLa rfl (WLa rfl (WLa rfl (WLa rfl (WL_nil (WQ_code (WC_seq (WC_region (WLa rfl (WLa rfl ?_))))))))))
 refine WL_do rfl rfl rfl (D_call (rp_new M now hm1 hm2 hnow) rfl rfl rfl rfl (pqC)) ?_
 rintro _ _ ⟨_, ⟨q0, rfl, rfl, hq0⟩, rfl⟩
 refine WLa rfl (WLa rfl (WLa rfl ?_))
 refine WL_do rfl rfl rfl (D_alloc rfl zv81) ?_
 rintro _ _ ⟨b1, rfl, rfl⟩
 refine WL_do0 rfl rfl (D_store (vs := [_, _, _, _, _, _, _, _]) rfl Tryz.sizeOf81 rfl rfl rfl rfl rfl (plC) (Nat.le_of_ble_eq_true rfl)) ?_
 rintro _ _ rfl
 refine WLa rfl (WL_nil (WQ_code (WC_seq (WC_seq (WC_region (WLa rfl (WLa rfl ?_)))))))
 refine WL_val rfl rfl rfl (R_neq rfl rfl rfl) ?_
 refine WL_set (s := 32) (v := .bool false) rfl (by simp) ?_
 refine WLa rfl (WLa rfl ?_)
 refine WL_val rfl rfl rfl (R_ptrEqNil rfl Tryz.underlying23 rfl) ?_
 refine WLa rfl ?_
 refine WL_val rfl rfl rfl (R_neq rfl rfl rfl) ?_
 refine WL_set (s := 37) (v := .bool false) rfl (by simp) ?_
 refine WL_val rfl rfl rfl (R_boolNe rfl Tryz.underlying4 rfl rfl) ?_
 refine WL_set (s := 38) (v := .bool false) rfl (by rfl) ?_
 refine WLa rfl (WL_nil (WQ_code ?_))
 refine WC_F rfl ?_
 refine WC_skip (WQ_code (WC_seq (WC_seq (WC_region (WLa rfl ?_)))))
 refine WL_val rfl rfl rfl (R_ptrEqNil rfl Tryz.underlying23 rfl) ?_
 refine WL_nil (WQ_code ?_)
 refine WC_F rfl ?_
 refine WC_skip (WQ_code (WC_seq (WC_seq (WC_region (WLa rfl ?_)))))
 refine WL_val rfl rfl rfl (R_len rfl Tryz.underlying52 rfl) ?_
 refine WLa rfl (WL_nil (WQ_code (WC_block ?_)))
 refine WC_loopF (G := PlW11) [6, 7, 12, 13, 45, 46, 47, 48, 49, 50, 51, 52, 53, 54, 55, 56, 57, 58, 59, 60, 61, 62, 63, 64, 65, 66, 67] (fun y => y.k ≤ l.length ∧ PoIs y.N y.z y.m ∧ RpOk y.K y.z y.q ∧ HInv y.z ∧ y.N ≤ 200 * y.k ∧ y.K ≤ y.k) (fun y => [(45, .int .i64 (y.k : Int)), (7, ptrH y.m.p)]) (fun y => ⟨some b1, cl [.int .i64 128, slV y.q.ow y.q.W.length y.q.cw, .int .u64 (y.z.now : Int), slV y.q.od y.q.D.length y.q.cd, slV y.q.l.os y.z.s.sm.length y.q.l.sc, slV y.q.l.oq y.z.s.qm.length y.q.l.qc, slV y.q.l.ow y.z.s.W.length y.q.l.wc, slV y.q.orr y.z.R.length y.q.cr] 81⟩ :: (rpH y.z y.q ++ poH y.z y.m)) (fun y => l.length - y.k) (⟨0, 0, 0, newS M now, m0, q0⟩) (⟨Nat.zero_le _, g0, hq0, hinv_new M now hm2 hnow, Nat.le_refl _, Nat.le_refl _⟩) leZ (pqC) ?_
 rintro y ⟨hyk, hy, hyq, hz, hyn, hyK⟩
 refine WC_seq (WC_region ?_)
 refine WL_val rfl rfl rfl (R_lss rfl rfl rfl) ?_
 refine WL_nil (WQ_code (WC_seq ?_))
 refine WC_dec rfl (fun c1 => ?_) (fun c1 => ?_)
 ·refine WC_skip (WQ_code (WC_seq (WC_block (WC_seq (WC_region ?_)))))
  obtain ⟨a, hak⟩ := exE (T := l) (i := y.k) (by omega)
  obtain ⟨lb, lk, lcs, le, lfr, rfl, rfl, hat⟩ := ha.some (by omega)
  have htm := hOk a (List.mem_of_getElem? hak)
  refine WL_val rfl rfl rfl (R_indexAddrN rfl Tryz.underlying52 Tryz.sizeOf54 rfl rfl (by omega)) ?_
  refine WL_val rfl rfl rfl (R_loadAG (vs := encA11 a) rfl ag54 rfl (mmC) rfl (hat y.k a hak)) ?_
  refine WL_do rfl rfl rfl (D_alloc rfl zv54) ?_
  rintro _ _ ⟨b2, rfl, rfl⟩
  refine WL_do0 rfl rfl (D_store (vs := [_, _, _, _, _, _, _]) rfl Tryz.sizeOf54 rfl rfl rfl rfl rfl (plC) (Nat.le_of_ble_eq_true rfl)) ?_
  rintro _ _ rfl
  refine WL_nil (WQ_code (WC_seq (WC_region (WLa rfl (WL_nil (WQ_code (WC_seq (WC_region (WLa rfl ?_)))))))))
  refine WL_val rfl rfl rfl (R_loadA (vs := [_, _, _, _, _, _, _, _]) rfl ag81 rfl (mmC) rfl (atZ)) ?_
  refine WL_val rfl rfl rfl (R_loadA (vs := [_, _, _, _, _, _, _]) rfl ag54 rfl (mmC) rfl (atZ)) ?_
  refine WL_do rfl rfl rfl (D_call (pdo_ok y.m hy (by omega) hyq (by omega) hz a htm) rfl rfl rfl rfl (pqC)) ?_
  rintro _ _ ⟨_, ⟨z2, m2, q2, rfl, rfl, g2, hq2, hz2⟩, rfl⟩
  refine WLa rfl (WLa rfl (WLa rfl (WLa rfl (WLa rfl ?_))))
  refine WL_do0 rfl rfl (D_store (vs := [_, _, _, _, _, _, _, _]) rfl Tryz.sizeOf81 rfl rfl rfl rfl rfl (plC) (Nat.le_of_ble_eq_true rfl)) ?_
  rintro _ _ rfl
  refine WLa rfl (WL_nil (WQ_code (WC_seq (WC_region (WLa rfl ?_)))))
  refine WL_val rfl rfl rfl (R_not rfl rfl) ?_
  refine WLa rfl (WLa rfl ?_)
  refine WL_val rfl rfl rfl (R_loadA (vs := [_, _, _, _, _, _, _, _]) rfl ag81 rfl (mmC) rfl (atZ)) ?_
  refine WL_val rfl rfl rfl (R_fieldAddr rfl fa54_3 rfl) ?_
  refine WL_val rfl rfl rfl (R_loadA (vs := [_, _]) rfl ag30 rfl (mmC) rfl (atZ)) ?_
  refine WL_do rfl rfl rfl (D_call (looks_ok m2 g2 (by omega) hq2 hz2 a.n a.g) rfl rfl rfl rfl (pqC)) ?_
  rintro _ _ ⟨_, ⟨rfl, rfl⟩, rfl⟩
  refine WL_val rfl rfl rfl (R_not rfl rfl) ?_
  refine WLa rfl (WL_nil (WQ_code ?_))
  refine WC_F rfl ?_
  refine WC_skip (WQ_code (WC_region ?_))
  refine WL_val rfl rfl rfl (R_add rfl rfl rfl (by omega)) ?_
  refine WLa rfl (WL_nil ?_)
  refine WQ_nextF (⟨y.k + 1, y.N + 200, y.K + 1, z2, m2, q2⟩) (⟨by dsimp only; omega, g2, hq2, hz2, by dsimp only; omega, by dsimp only; omega⟩) (by dsimp only; omega) leZ (psZ) rfl (pqC)
 ·refine WC_exit (WQ_code (WC_seq (WC_region ?_)))
  refine WL_do rfl rfl rfl (D_call (known_ok) rfl rfl rfl rfl (pqC)) ?_
  rintro _ _ ⟨_, ⟨rfl, rfl⟩, rfl⟩
  refine WLa rfl (WL_nil (WQ_code (WC_ret ?_)))
  refine WQ_ret rfl rfl (.cons (.tmp rfl) .nil) rfl (by
    exact ⟨rfl, rfl⟩) (pqC)
end Go.Proofs.YtbkdebnkoidicaaGreat
end
