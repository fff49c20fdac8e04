/-
  Chapter 11 (poller), part Wakes: contracts of functions that the laws call, each for the heap it names.
-/
import Derived.Test.YtbkdebnkoidicaaGreatY04
import Derived.Test.YtbkdebnkoidicaaGreatRows
section
set_option linter.unusedVariables false
set_option maxRecDepth 20000
set_option maxHeartbeats 4000000
namespace Go.Proofs.YtbkdebnkoidicaaGreat
theorem own_rep (b k : Nat) (h : k ≤ 64) : Own (some b) (List.replicate k (0 : Int)).length k 1 (ivs (List.replicate k 0)) [] := by
  have e : (List.replicate k (0 : Int)).length = k := List.length_replicate
  refine ⟨?_, ?_, by rw [e]; exact Nat.le_refl _, by omega, fun e => by cases e⟩
  · rw [fm_length encI1]
  · rw [fm_length encI1, e]; rfl
theorem clsT_no {T : List Slt.Pl} {n g : Int} (h : ¬ (getT T n g).2 = 0) : clsT T n g = T := by
  unfold clsT
  unfold getT at h
  cases hq : tbAt T n g with
  | none => rfl
  | some q => rw [hq] at h; exact absurd rfl h
theorem po_new (k now : Nat) (h1 : 1 ≤ k) (h2 : k ≤ 64) (h3 : now < 18446744073709551615) : Spec Tryz.prog 9 [.int .i64 (k : Int), .int .u64 (now : Int)] [] (fun x H' => ∃ m : PoM, x = .tuple #[ptrH m.p, .int .i64 0] ∧ H' = poH (newS k now) m ∧ PoIs 0 (newS k now) m) := by
  refine Spec.of (E := [(0, .int .i64 (k : Int)), (1, .int .u64 (now : Int))]) Tryz.func9 rfl (by kernel_rfl) Tryz.ntmps9 rfl rfl (fun w => ?_)
  refine WC_seq ?_
  refine WC_region ?_
  refine WL_val rfl rfl rfl (R_assign rfl rfl) ?_
  refine WL_val rfl rfl rfl (R_assign rfl rfl) ?_
  refine WL_nil ?_
  refine WQ_code ?_
  refine WC_seq ?_
  refine WC_region ?_
  refine WL_val rfl rfl rfl (R_move rfl rfl) ?_
  refine WL_do rfl rfl rfl (D_call (p_new k h1 h2) rfl rfl rfl rfl (pqC)) ?_
  rintro _ _ ⟨_, ⟨l0, rfl, rfl, hl0⟩, rfl⟩
  refine WL_val rfl rfl rfl (R_move rfl rfl) ?_
  refine WL_val rfl rfl rfl (R_extract rfl rfl rfl) ?_
  refine WL_val rfl rfl rfl (R_extract rfl rfl rfl) ?_
  refine WL_val rfl rfl rfl (R_assign rfl rfl) ?_
  refine WL_val rfl rfl rfl (R_assign rfl rfl) ?_
  refine WL_nil ?_
  refine WQ_code ?_
  refine WC_seq ?_
  refine WC_region ?_
  refine WL_val rfl rfl rfl (R_move rfl rfl) ?_
  refine WL_do rfl rfl rfl (D_call (d_new now h3) rfl rfl rfl rfl (pqC)) ?_
  rintro _ _ ⟨_, ⟨d0, rfl, rfl, hdn0, hd0⟩, rfl⟩
  refine WL_val rfl rfl rfl (R_move rfl rfl) ?_
  refine WL_val rfl rfl rfl (R_extract rfl rfl rfl) ?_
  refine WL_val rfl rfl rfl (R_extract rfl rfl rfl) ?_
  refine WL_val rfl rfl rfl (R_assign rfl rfl) ?_
  refine WL_val rfl rfl rfl (R_assign rfl rfl) ?_
  refine WL_nil ?_
  refine WQ_code ?_
  refine WC_seq ?_
  refine WC_region ?_
  refine WL_do rfl rfl rfl (D_call (s_new) rfl rfl rfl rfl (pqC)) ?_
  rintro _ _ ⟨_, ⟨tb0, rfl, rfl⟩, rfl⟩
  refine WL_val rfl rfl rfl (R_move rfl rfl) ?_
  refine WL_val rfl rfl rfl (R_extract rfl rfl rfl) ?_
  refine WL_val rfl rfl rfl (R_extract rfl rfl rfl) ?_
  refine WL_val rfl rfl rfl (R_assign rfl rfl) ?_
  refine WL_val rfl rfl rfl (R_assign rfl rfl) ?_
  refine WL_nil ?_
  refine WQ_code ?_
  refine WC_seq ?_
  refine WC_seq ?_
  refine WC_region ?_
  refine WL_val rfl rfl rfl (R_move rfl rfl) ?_
  refine WL_val rfl rfl rfl (R_neq rfl rfl rfl) ?_
  refine WL_val rfl rfl rfl (R_move rfl rfl) ?_
  refine WL_set (s := 28) (v := .bool false) rfl (by simp) ?_
  refine WL_val rfl rfl rfl (R_move rfl rfl) ?_
  refine WL_val rfl rfl rfl (R_neq rfl rfl rfl) ?_
  refine WL_set (s := 30) (v := .bool false) rfl (by simp) ?_
  refine WL_val rfl rfl rfl (R_pickF rfl rfl rfl) ?_
  refine WL_nil ?_
  refine WQ_code ?_
  refine WC_F rfl ?_
  refine WC_skip ?_
  refine WQ_code ?_
  refine WC_seq ?_
  refine WC_region ?_
  refine WL_val rfl rfl rfl (R_move rfl rfl) ?_
  refine WL_val rfl rfl rfl (R_move rfl rfl) ?_
  refine WL_val rfl rfl rfl (R_move rfl rfl) ?_
  refine WL_val rfl rfl rfl (R_move rfl rfl) ?_
  refine WL_do rfl rfl rfl (D_make (n := k) rfl si90 rfl rfl (by omega) (by omega)) ?_
  rintro _ _ ⟨b1, rfl, rfl⟩
  rw [show (List.replicate k [Value.int .i64 0]).flatten = ivs (List.replicate k 0) ++ [] from by rw [List.append_nil]; exact fm_rep (enc := encI) 0 k]
  have hlr : (List.replicate k (0 : Int)).length = k := List.length_replicate
  refine WL_val rfl rfl rfl (R_build rfl zv92 pl92 rfl rfl) ?_
  refine WL_do rfl rfl rfl (D_box (cs := [_, _, _, _]) rfl rfl rfl) ?_
  rintro _ _ ⟨b2, rfl, rfl⟩
  refine WL_val rfl rfl rfl (R_assign rfl rfl) ?_
  refine WL_val rfl rfl rfl (R_assign rfl rfl) ?_
  refine WL_nil ?_
  refine WQ_code ?_
  refine WC_ret ?_
  refine WQ_ret rfl rfl (.cons (.tmp rfl) (.cons (.tmp rfl) .nil)) rfl (by
      have hH : (⟨some b2, cl [ptrH tb0.p, ptrH d0.p, ptrQ l0.p, .slice (some ⟨b1, 0, none⟩) k k] 92⟩ :: ⟨some b1, cl (ivs (List.replicate k 0) ++ []) 45⟩ :: (TBH tb0 (Slt.freshT 128) ++ (DLH now d0 ++ PKH l0)) : Heap) = poH (newS k now) ⟨b2, tb0, d0, l0, b1, k, []⟩ := by unfold newS; dsimp only [poH, poE]; rw [hlr]
      exact ⟨⟨b2, tb0, d0, l0, b1, k, []⟩, rfl, hH, ⟨TbOk.new, hd0, by rw [hdn0]; exact Nat.le_refl 0, hl0, rfl, by (show 1 ≤ (List.replicate k (0 : Int)).length); rw [hlr]; exact h1, own_rep b1 k h2⟩⟩) (pqC)
theorem po_close {N : Nat} {z : PoS} (m : PoM) (h : PoIs N z m) (hN : N ≤ 700000) (n g : Int) : Spec Tryz.prog 12 [ptrH m.p, .agg #[.int .i64 n, .int .i64 g]] (poH z m) (fun x H' => ∃ (m' : PoM) (ob : Option Nat) (c : Nat) (tl : List Value), x = .tuple #[slV ob (z.closeL n g).length c, .int .i64 (getT z.T n g).2] ∧ Own ob (z.closeL n g).length c 1 (ivs (z.closeL n g)) tl ∧ H' = ⟨ob, cl (ivs (z.closeL n g) ++ tl) 3⟩ :: poH (z.close n g) m' ∧ m'.p = m.p ∧ PoIs (N + 130) (z.close n g) m') := by
  by_cases he : (getT z.T n g).2 = 0
  · obtain ⟨hn1, hn2, _⟩ := getT_ok h.tb he
    have e8 : z.closeL n g = (z.cls n g).s.waiting (n, 0) ++ ((z.cls n g).all (n, 0) 3).s.waiting (n, 1) := if_pos he
    have e9 : z.close n g = ((z.cls n g).all (n, 0) 3).all (n, 1) 3 := if_pos he
    rw [e8, e9]
    have hdn := h.dn
    refine Spec.of (E := [(0, ptrH m.p), (1, .agg #[.int .i64 n, .int .i64 g])]) Tryz.func12 rfl (by kernel_rfl) Tryz.ntmps12 rfl rfl (fun w => ?_)
    refine WC_seq ?_
    refine WC_region ?_
    refine WL_do rfl rfl rfl (D_box (cs := [_, _]) rfl rfl rfl) ?_
    rintro _ _ ⟨b1, rfl, rfl⟩
    refine WL_val rfl rfl rfl (R_assign rfl rfl) ?_
    refine WL_val rfl rfl rfl (R_assign rfl rfl) ?_
    refine WL_nil ?_
    refine WQ_code ?_
    refine WC_seq ?_
    refine WC_seq ?_
    refine WC_region ?_
    refine WL_val rfl rfl rfl (R_move rfl rfl) ?_
    refine WL_do rfl rfl rfl (D_call (po_zero z.R.length m) rfl rfl rfl rfl (pqC)) ?_
    rintro _ _ ⟨_, ⟨rfl, rfl⟩, rfl⟩
    refine WL_nil ?_
    refine WQ_code ?_
    refine WC_F rfl ?_
    refine WC_skip ?_
    refine WQ_code ?_
    refine WC_seq ?_
    refine WC_seq ?_
    refine WC_draw ([⟨some b1, _⟩, ⟨some m.p, _⟩]) [(0, true), (1, true), (2, true), (3, true), (4, true), (5, false), (6, true), (7, true), (8, true), (9, true), (10, true)] followsMixed rfl rfl (by kernel_rfl) pqC ?_
    refine WM_val rfl rfl rfl rfl (R_move rfl rfl) ?_
    refine WM_val rfl rfl rfl rfl (R_nilCheck rfl rfl) ?_
    refine WM_val rfl rfl rfl rfl (R_fieldAddr rfl fa92_0 rfl) ?_
    refine WM_val rfl rfl rfl rfl (R_load rfl sc87 rfl (mmC) rfl) ?_
    refine WM_val rfl rfl rfl rfl (R_loadA (vs := [_, _]) rfl ag30 rfl (mmC) rfl (atZ)) ?_
    refine WM_do rfl rfl rfl rfl (D_call (s_close m.tb h.tb (by omega) n g) rfl rfl rfl rfl (pqC)) ?_
    rintro _ _ ⟨_, ⟨rfl, rfl⟩, rfl⟩
    refine ⟨⟨_, pqC⟩, ?_⟩
    rw [he]
    refine WM_val rfl rfl rfl rfl (R_move rfl rfl) ?_
    refine WM_val rfl rfl rfl rfl (R_extract rfl rfl rfl) ?_
    refine WM_val rfl rfl rfl rfl (R_extract rfl rfl rfl) ?_
    refine WM_val rfl rfl rfl rfl (R_assign rfl rfl) ?_
    refine WM_val rfl rfl rfl rfl (R_assign rfl rfl) ?_
    refine WM_nil ?_
    refine WQ_code ?_
    refine WC_seq ?_
    refine WC_region ?_
    refine WL_val rfl rfl rfl (R_move rfl rfl) ?_
    refine WL_val rfl rfl rfl (R_neq rfl rfl rfl) ?_
    refine WL_nil ?_
    refine WQ_code ?_
    refine WC_dF rfl (by simp) ?_
    refine WC_skip ?_
    refine WQ_code ?_
    refine WC_seq ?_
    refine WC_draw ([⟨some b1, _⟩, ⟨some m.p, _⟩]) [(0, true), (1, true), (2, true), (3, true), (4, true), (5, true), (6, false)] followsMixed rfl rfl (by kernel_rfl) pqC ?_
    refine WM_val rfl rfl rfl rfl (R_move rfl rfl) ?_
    refine WM_val rfl rfl rfl rfl (R_nilCheck rfl rfl) ?_
    refine WM_val rfl rfl rfl rfl (R_fieldAddr rfl fa92_1 rfl) ?_
    refine WM_val rfl rfl rfl rfl (R_load rfl sc88 rfl (mmC) rfl) ?_
    refine WM_val rfl rfl rfl rfl (R_fieldAddr rfl fa30_0 rfl) ?_
    refine WM_val rfl rfl rfl rfl (R_load rfl sc3 rfl (mmC) rfl) ?_
    refine WM_do rfl rfl rfl rfl (D_call (d_clear m.d h.di n hn1 hn2 (by omega)) rfl rfl rfl rfl (pqC)) ?_
    rintro _ _ ⟨_, ⟨d', rfl, rfl, hdp, hdd, hd'⟩, rfl⟩
    refine ⟨⟨_, pqC⟩, ?_⟩
    simp only [poE]
    rw [← hdp]
    have h2 : PoIs (N + 2) (z.cls n g) { m with d := d' } := (h.T_ (M := N + 2) (by omega) (h.tb.mono (by omega) |>.cls n g)).ends (Nat.le_refl _) hd' (by omega)
    refine WM_nil ?_
    refine WQ_code ?_
    refine WC_seq ?_
    refine WC_region ?_
    refine WL_val rfl rfl rfl (R_move rfl rfl) ?_
    refine WL_val rfl rfl rfl (R_fieldAddr rfl fa30_0 rfl) ?_
    refine WL_val rfl rfl rfl (R_load rfl sc3 rfl (mmC) rfl) ?_
    refine WL_val rfl rfl rfl (R_build rfl zv108 pl108 rfl rfl) ?_
    refine WL_do rfl rfl rfl (D_call (po_all { m with d := d' } h2 (by omega) (n, 0) 3) rfl rfl rfl rfl (pqC)) ?_
    rintro _ _ ⟨_, ⟨m2, o2, c2, tl2, rfl, own2, rfl, hm2, h3⟩, rfl⟩
    have pm2 : m2.p = m.p := hm2
    rw [← pm2]
    have hw1 : ((z.cls n g).s.waiting (n, 0)).length ≤ 64 := waiting_len h.pk.ps (n, 0)
    have hw2 : (((z.cls n g).all (n, 0) 3).s.waiting (n, 1)).length ≤ 64 := waiting_len h3.pk.ps (n, 1)
    refine WL_val rfl rfl rfl (R_assign rfl rfl) ?_
    refine WL_nil ?_
    refine WQ_code ?_
    refine WC_seq ?_
    refine WC_region ?_
    refine WL_val rfl rfl rfl (R_move rfl rfl) ?_
    refine WL_val rfl rfl rfl (R_move rfl rfl) ?_
    refine WL_val rfl rfl rfl (R_fieldAddr rfl fa30_0 rfl) ?_
    refine WL_val rfl rfl rfl (R_load rfl sc3 rfl (mmC) rfl) ?_
    refine WL_val rfl rfl rfl (R_build rfl zv108 pl108 rfl rfl) ?_
    refine WL_do rfl rfl rfl (D_call (po_all m2 h3 (by omega) (n, 1) 3) rfl rfl rfl rfl (pqC)) ?_
    rintro _ _ ⟨_, ⟨m4, o4, c4, tl4, rfl, own4, rfl, hm4, h5⟩, rfl⟩
    refine WL_do rfl rfl rfl (D_appendO rfl si34 rfl own2 plC rfl own4 mmC (ivs_1 _) (by omega) (by omega)) ?_
    rintro _ _ ⟨o5, c5, tl5, rfl, own5, rfl⟩
    rw [ivs_app, ← List.length_append] at own5
    rw [ivs_app, ← List.length_append]
    refine WL_val rfl rfl rfl (R_assign rfl rfl) ?_
    refine WL_val rfl rfl rfl (R_assign rfl rfl) ?_
    refine WL_nil ?_
    refine WQ_code ?_
    refine WC_ret ?_
    refine WQ_ret rfl rfl (.cons (.tmp rfl) (.cons (.tmp rfl) .nil)) rfl (by
        exact ⟨m4, o5, c5, tl5, by first | rfl | (rw [he]; rfl), own5, rfl, hm4, h5.mono (by omega)⟩) (pqC)
  · have e8 : z.closeL n g = [] := if_neg he
    have e9 : z.close n g = z := if_neg he
    rw [e8, e9]
    refine Spec.of (E := [(0, ptrH m.p), (1, .agg #[.int .i64 n, .int .i64 g])]) Tryz.func12 rfl (by kernel_rfl) Tryz.ntmps12 rfl rfl (fun w => ?_)
    refine WC_seq ?_
    refine WC_region ?_
    refine WL_do rfl rfl rfl (D_box (cs := [_, _]) rfl rfl rfl) ?_
    rintro _ _ ⟨b1, rfl, rfl⟩
    refine WL_val rfl rfl rfl (R_assign rfl rfl) ?_
    refine WL_val rfl rfl rfl (R_assign rfl rfl) ?_
    refine WL_nil ?_
    refine WQ_code ?_
    refine WC_seq ?_
    refine WC_seq ?_
    refine WC_region ?_
    refine WL_val rfl rfl rfl (R_move rfl rfl) ?_
    refine WL_do rfl rfl rfl (D_call (po_zero z.R.length m) rfl rfl rfl rfl (pqC)) ?_
    rintro _ _ ⟨_, ⟨rfl, rfl⟩, rfl⟩
    refine WL_nil ?_
    refine WQ_code ?_
    refine WC_F rfl ?_
    refine WC_skip ?_
    refine WQ_code ?_
    refine WC_seq ?_
    refine WC_seq ?_
    refine WC_draw ([⟨some b1, _⟩, ⟨some m.p, _⟩]) [(0, true), (1, true), (2, true), (3, true), (4, true), (5, false), (6, true), (7, true), (8, true), (9, true), (10, true)] followsMixed rfl rfl (by kernel_rfl) pqC ?_
    refine WM_val rfl rfl rfl rfl (R_move rfl rfl) ?_
    refine WM_val rfl rfl rfl rfl (R_nilCheck rfl rfl) ?_
    refine WM_val rfl rfl rfl rfl (R_fieldAddr rfl fa92_0 rfl) ?_
    refine WM_val rfl rfl rfl rfl (R_load rfl sc87 rfl (mmC) rfl) ?_
    refine WM_val rfl rfl rfl rfl (R_loadA (vs := [_, _]) rfl ag30 rfl (mmC) rfl (atZ)) ?_
    refine WM_do rfl rfl rfl rfl (D_call (s_close m.tb h.tb (by omega) n g) rfl rfl rfl rfl (pqC)) ?_
    rintro _ _ ⟨_, ⟨rfl, rfl⟩, rfl⟩
    refine ⟨⟨_, pqC⟩, ?_⟩
    have e7 : clsT z.T n g = z.T := clsT_no he
    rw [e7]
    refine WM_val rfl rfl rfl rfl (R_move rfl rfl) ?_
    refine WM_val rfl rfl rfl rfl (R_extract rfl rfl rfl) ?_
    refine WM_val rfl rfl rfl rfl (R_extract rfl rfl rfl) ?_
    refine WM_val rfl rfl rfl rfl (R_assign rfl rfl) ?_
    refine WM_val rfl rfl rfl rfl (R_assign rfl rfl) ?_
    refine WM_nil ?_
    refine WQ_code ?_
    refine WC_seq ?_
    refine WC_region ?_
    refine WL_val rfl rfl rfl (R_move rfl rfl) ?_
    refine WL_val rfl rfl rfl (R_neq rfl rfl rfl) ?_
    refine WL_nil ?_
    refine WQ_code ?_
    refine WC_dT rfl (by exact he) ?_
    refine WC_seq ?_
    refine WC_region ?_
    refine WL_val rfl rfl rfl (R_move rfl rfl) ?_
    refine WL_val rfl rfl rfl (R_assign rfl rfl) ?_
    refine WL_val rfl rfl rfl (R_assign rfl rfl) ?_
    refine WL_nil ?_
    refine WQ_code ?_
    refine WC_ret ?_
    refine WQ_none 3 ?_
    refine WQ_ret rfl rfl (.cons (.tmp rfl) (.cons (.tmp rfl) .nil)) rfl (by
        exact ⟨m, none, 0, [], rfl, Own.empty 1, rfl, rfl, h.mono (by omega)⟩) (pqC)
theorem po_dead {N : Nat} {z : PoS} (m : PoM) (h : PoIs N z m) (hN : N ≤ 700000) (n g dir : Int) (k : Nat) (hk : k ≤ 18446744073709551615) : Spec Tryz.prog 17 [ptrH m.p, .agg #[.int .i64 n, .int .i64 g], .int .i64 dir, .int .u64 (k : Int)] (poH z m) (fun x H' => ∃ (m' : PoM) (ob : Option Nat) (c : Nat) (tl : List Value), x = .tuple #[slV ob (z.deadL n g dir k).length c, .int .i64 (z.spE n g dir)] ∧ Own ob (z.deadL n g dir k).length c 1 (ivs (z.deadL n g dir k)) tl ∧ H' = ⟨ob, cl (ivs (z.deadL n g dir k) ++ tl) 3⟩ :: poH (z.dead n g dir k) m' ∧ m'.p = m.p ∧ PoIs (N + 65) (z.dead n g dir k) m') := by
  by_cases he : z.spE n g dir = 0
  · obtain ⟨hv, hsp⟩ := spE_vld h he
    have hdn := h.dn
    have e8 : z.deadL n g dir k = if k ≤ z.now then z.s.waiting (n, dir) else [] := if_pos he
    have e9 : z.dead n g dir k = if k ≤ z.now then { z with f := updF z.f (plS (n, dir)) k }.all (n, dir) 2 else { z with f := updF z.f (plS (n, dir)) k } := if_pos he
    rw [e8, e9]
    refine Spec.of (E := [(0, ptrH m.p), (1, .agg #[.int .i64 n, .int .i64 g]), (2, .int .i64 dir), (3, .int .u64 (k : Int))]) Tryz.func17 rfl (by kernel_rfl) Tryz.ntmps17 rfl rfl (fun w => ?_)
    refine WC_seq ?_
    refine WC_region ?_
    refine WL_do rfl rfl rfl (D_box (cs := [_, _]) rfl rfl rfl) ?_
    rintro _ _ ⟨b1, rfl, rfl⟩
    refine WL_val rfl rfl rfl (R_assign rfl rfl) ?_
    refine WL_val rfl rfl rfl (R_assign rfl rfl) ?_
    refine WL_nil ?_
    refine WQ_code ?_
    refine WC_seq ?_
    refine WC_region ?_
    refine WL_val rfl rfl rfl (R_move rfl rfl) ?_
    refine WL_val rfl rfl rfl (R_loadA (vs := [_, _]) rfl ag30 rfl (mmC) rfl (atZ)) ?_
    refine WL_val rfl rfl rfl (R_move rfl rfl) ?_
    refine WL_do rfl rfl rfl (D_call (po_spot m h (by omega) n g dir) rfl rfl rfl rfl (pqC)) ?_
    rintro _ _ ⟨_, ⟨rfl, rfl⟩, rfl⟩
    rw [he, hsp]
    refine WL_val rfl rfl rfl (R_move rfl rfl) ?_
    refine WL_val rfl rfl rfl (R_extract rfl rfl rfl) ?_
    refine WL_val rfl rfl rfl (R_extract rfl rfl rfl) ?_
    refine WL_do rfl rfl rfl (D_alloc rfl zv108) ?_
    rintro _ _ ⟨b2, rfl, rfl⟩
    refine WL_do0 rfl rfl (D_store (vs := [_, _]) rfl Tryz.sizeOf108 rfl rfl rfl rfl rfl (plC) (by exact Nat.le_of_ble_eq_true rfl)) ?_
    rintro _ _ rfl
    refine WL_val rfl rfl rfl (R_assign rfl rfl) ?_
    refine WL_nil ?_
    refine WQ_code ?_
    refine WC_seq ?_
    refine WC_seq ?_
    refine WC_region ?_
    refine WL_val rfl rfl rfl (R_move rfl rfl) ?_
    refine WL_val rfl rfl rfl (R_neq rfl rfl rfl) ?_
    refine WL_nil ?_
    refine WQ_code ?_
    refine WC_dF rfl (by simp) ?_
    refine WC_skip ?_
    refine WQ_code ?_
    refine WC_seq ?_
    refine WC_seq ?_
    refine WC_draw ([⟨some b2, _⟩, ⟨some m.p, _⟩]) [(0, true), (1, true), (2, true), (3, true), (4, true), (5, true), (6, false), (7, true), (8, true), (9, true), (10, true), (11, true)] followsMixed rfl rfl (by kernel_rfl) pqC ?_
    refine WM_val rfl rfl rfl rfl (R_move rfl rfl) ?_
    refine WM_val rfl rfl rfl rfl (R_nilCheck rfl rfl) ?_
    refine WM_val rfl rfl rfl rfl (R_fieldAddr rfl fa92_1 rfl) ?_
    refine WM_val rfl rfl rfl rfl (R_load rfl sc88 rfl (mmC) rfl) ?_
    refine WM_val rfl rfl rfl rfl (R_loadA (vs := [_, _]) rfl ag108 rfl (mmC) rfl (atZ)) ?_
    refine WM_val rfl rfl rfl rfl (R_move rfl rfl) ?_
    refine WM_do rfl rfl rfl rfl (D_call (d_set m.d h.di (n, dir) hv k hk (by omega)) rfl rfl rfl rfl (pqC)) ?_
    rintro _ _ ⟨_, ⟨d', rfl, rfl, hdp, hdd, hd'⟩, rfl⟩
    refine ⟨⟨_, pqC⟩, ?_⟩
    simp only [poE]
    rw [← hdp]
    have h2 : PoIs (N + 1) { z with f := updF z.f (plS (n, dir)) k } { m with d := d' } := h.ends (Nat.le_succ N) hd' (by omega)
    refine WM_val rfl rfl rfl rfl (R_move rfl rfl) ?_
    refine WM_val rfl rfl rfl rfl (R_extract rfl rfl rfl) ?_
    refine WM_val rfl rfl rfl rfl (R_extract rfl rfl rfl) ?_
    refine WM_val rfl rfl rfl rfl (R_assign rfl rfl) ?_
    refine WM_val rfl rfl rfl rfl (R_assign rfl rfl) ?_
    refine WM_nil ?_
    refine WQ_code ?_
    refine WC_seq ?_
    refine WC_region ?_
    refine WL_val rfl rfl rfl (R_move rfl rfl) ?_
    refine WL_val rfl rfl rfl (R_notD rfl rfl) ?_
    refine WL_nil ?_
    refine WQ_code ?_
    refine WC_dec rfl (fun c1 => ?_) (fun c1 => ?_)
    · refine WC_none 3 ?_
      refine WC_seq ?_
      refine WC_region ?_
      refine WL_val rfl rfl rfl (R_assign rfl rfl) ?_
      refine WL_val rfl rfl rfl (R_assign rfl rfl) ?_
      refine WL_nil ?_
      refine WQ_code ?_
      refine WC_ret ?_
      refine WQ_ret rfl rfl (.cons (.tmp rfl) (.cons (.tmp rfl) .nil)) rfl (by
          exact ⟨{ m with d := d' }, none, 0, [], by rw [if_neg (by assumption)]; first | rfl | (rw [he]; rfl), by rw [if_neg (by assumption)]; exact Own.empty 1, by rw [if_neg (by assumption), if_neg (by assumption)], rfl, by rw [if_neg (by assumption)]; exact h2.mono (by omega)⟩) (pqC)
    · refine WC_skip ?_
      refine WQ_code ?_
      refine WC_seq ?_
      refine WC_region ?_
      refine WL_val rfl rfl rfl (R_move rfl rfl) ?_
      refine WL_val rfl rfl rfl (R_loadA (vs := [_, _]) rfl ag108 rfl (mmC) rfl (atZ)) ?_
      refine WL_do rfl rfl rfl (D_call (po_all { m with d := d' } h2 (by omega) (n, dir) 2) rfl rfl rfl rfl (pqC)) ?_
      rintro _ _ ⟨_, ⟨m2, o2, c2, tl2, rfl, own2, rfl, hm2, h3⟩, rfl⟩
      refine WL_val rfl rfl rfl (R_assign rfl rfl) ?_
      refine WL_val rfl rfl rfl (R_assign rfl rfl) ?_
      refine WL_nil ?_
      refine WQ_code ?_
      refine WC_ret ?_
      refine WQ_ret rfl rfl (.cons (.tmp rfl) (.cons (.tmp rfl) .nil)) rfl (by
          have hk2 : k ≤ z.now := Decidable.not_not.1 (by assumption)
          have hwl : (z.s.waiting (n, dir)).length ≤ 64 := waiting_len h.pk.ps (n, dir)
          rw [if_pos hk2, if_pos hk2]
          exact ⟨m2, o2, c2, tl2, by first | rfl | (rw [he]; rfl), own2, rfl, hm2, h3.mono (by (show N + 1 + (z.s.waiting (n, dir)).length ≤ _); omega)⟩) (pqC)
  · have e8 : z.deadL n g dir k = [] := if_neg he
    have e9 : z.dead n g dir k = z := if_neg he
    rw [e8, e9]
    refine Spec.of (E := [(0, ptrH m.p), (1, .agg #[.int .i64 n, .int .i64 g]), (2, .int .i64 dir), (3, .int .u64 (k : Int))]) Tryz.func17 rfl (by kernel_rfl) Tryz.ntmps17 rfl rfl (fun w => ?_)
    refine WC_seq ?_
    refine WC_region ?_
    refine WL_do rfl rfl rfl (D_box (cs := [_, _]) rfl rfl rfl) ?_
    rintro _ _ ⟨b1, rfl, rfl⟩
    refine WL_val rfl rfl rfl (R_assign rfl rfl) ?_
    refine WL_val rfl rfl rfl (R_assign rfl rfl) ?_
    refine WL_nil ?_
    refine WQ_code ?_
    refine WC_seq ?_
    refine WC_region ?_
    refine WL_val rfl rfl rfl (R_move rfl rfl) ?_
    refine WL_val rfl rfl rfl (R_loadA (vs := [_, _]) rfl ag30 rfl (mmC) rfl (atZ)) ?_
    refine WL_val rfl rfl rfl (R_move rfl rfl) ?_
    refine WL_do rfl rfl rfl (D_call (po_spot m h (by omega) n g dir) rfl rfl rfl rfl (pqC)) ?_
    rintro _ _ ⟨_, ⟨rfl, rfl⟩, rfl⟩
    refine WL_val rfl rfl rfl (R_move rfl rfl) ?_
    refine WL_val rfl rfl rfl (R_extract rfl rfl rfl) ?_
    refine WL_val rfl rfl rfl (R_extract rfl rfl rfl) ?_
    refine WL_do rfl rfl rfl (D_alloc rfl zv108) ?_
    rintro _ _ ⟨b2, rfl, rfl⟩
    refine WL_do0 rfl rfl (D_store (vs := [_, _]) rfl Tryz.sizeOf108 rfl rfl rfl rfl rfl (plC) (by exact Nat.le_of_ble_eq_true rfl)) ?_
    rintro _ _ rfl
    refine WL_val rfl rfl rfl (R_assign rfl rfl) ?_
    refine WL_nil ?_
    refine WQ_code ?_
    refine WC_seq ?_
    refine WC_seq ?_
    refine WC_region ?_
    refine WL_val rfl rfl rfl (R_move rfl rfl) ?_
    refine WL_val rfl rfl rfl (R_neq rfl rfl rfl) ?_
    refine WL_nil ?_
    refine WQ_code ?_
    refine WC_dT rfl (by exact he) ?_
    refine WC_seq ?_
    refine WC_region ?_
    refine WL_val rfl rfl rfl (R_move rfl rfl) ?_
    refine WL_val rfl rfl rfl (R_assign rfl rfl) ?_
    refine WL_val rfl rfl rfl (R_assign rfl rfl) ?_
    refine WL_nil ?_
    refine WQ_code ?_
    refine WC_ret ?_
    refine WQ_none 3 ?_
    refine WQ_ret rfl rfl (.cons (.tmp rfl) (.cons (.tmp rfl) .nil)) rfl (by
        exact ⟨m, none, 0, [], rfl, Own.empty 1, rfl, rfl, h.mono (by omega)⟩) (pqC)
theorem po_sig {N : Nat} {z : PoS} (m : PoM) (h : PoIs N z m) (hN : N ≤ 700000) (n g dir : Int) : Spec Tryz.prog 24 [ptrH m.p, .agg #[.int .i64 n, .int .i64 g], .int .i64 dir] (poH z m) (fun x H' => ∃ m' : PoM, x = .tuple #[.int .i64 (z.sigR n g dir).1, .int .i64 (z.sigR n g dir).2] ∧ H' = poH (z.sig n g dir) m' ∧ m'.p = m.p ∧ PoIs (N + 1) (z.sig n g dir) m') := by
  by_cases he : z.spE n g dir = 0
  · obtain ⟨hv, hsp⟩ := spE_vld h he
    have e8 : z.sigR n g dir = z.s.wakeR (n, dir) := if_pos he
    have e9 : z.sig n g dir = if (z.s.wakeR (n, dir)).2 = 0 then { z with s := z.s.wake (n, dir), R := z.R.set (z.s.wakeR (n, dir)).1.toNat 1 } else z := by unfold PoS.sig; rw [e8]
    rw [e8, e9]
    refine Spec.of (E := [(0, ptrH m.p), (1, .agg #[.int .i64 n, .int .i64 g]), (2, .int .i64 dir)]) Tryz.func24 rfl (by kernel_rfl) Tryz.ntmps24 rfl rfl (fun w => ?_)
    refine WC_seq ?_
    refine WC_region ?_
    refine WL_do rfl rfl rfl (D_box (cs := [_, _]) rfl rfl rfl) ?_
    rintro _ _ ⟨b1, rfl, rfl⟩
    refine WL_val rfl rfl rfl (R_assign rfl rfl) ?_
    refine WL_val rfl rfl rfl (R_assign rfl rfl) ?_
    refine WL_nil ?_
    refine WQ_code ?_
    refine WC_seq ?_
    refine WC_region ?_
    refine WL_val rfl rfl rfl (R_move rfl rfl) ?_
    refine WL_val rfl rfl rfl (R_loadA (vs := [_, _]) rfl ag30 rfl (mmC) rfl (atZ)) ?_
    refine WL_val rfl rfl rfl (R_move rfl rfl) ?_
    refine WL_do rfl rfl rfl (D_call (po_spot m h (by omega) n g dir) rfl rfl rfl rfl (pqC)) ?_
    rintro _ _ ⟨_, ⟨rfl, rfl⟩, rfl⟩
    rw [he, hsp]
    refine WL_val rfl rfl rfl (R_move rfl rfl) ?_
    refine WL_val rfl rfl rfl (R_extract rfl rfl rfl) ?_
    refine WL_val rfl rfl rfl (R_extract rfl rfl rfl) ?_
    refine WL_do rfl rfl rfl (D_alloc rfl zv108) ?_
    rintro _ _ ⟨b2, rfl, rfl⟩
    refine WL_do0 rfl rfl (D_store (vs := [_, _]) rfl Tryz.sizeOf108 rfl rfl rfl rfl rfl (plC) (by exact Nat.le_of_ble_eq_true rfl)) ?_
    rintro _ _ rfl
    refine WL_val rfl rfl rfl (R_assign rfl rfl) ?_
    refine WL_nil ?_
    refine WQ_code ?_
    refine WC_seq ?_
    refine WC_seq ?_
    refine WC_region ?_
    refine WL_val rfl rfl rfl (R_move rfl rfl) ?_
    refine WL_val rfl rfl rfl (R_neq rfl rfl rfl) ?_
    refine WL_nil ?_
    refine WQ_code ?_
    refine WC_dF rfl (by simp) ?_
    refine WC_skip ?_
    refine WQ_code ?_
    refine WC_seq ?_
    refine WC_draw ([⟨some b2, _⟩, ⟨some m.p, _⟩]) [(0, true), (1, true), (2, true), (3, true), (4, true), (5, false), (6, true), (7, true), (8, true), (9, true), (10, true)] followsMixed rfl rfl (by kernel_rfl) pqC ?_
    refine WM_val rfl rfl rfl rfl (R_move rfl rfl) ?_
    refine WM_val rfl rfl rfl rfl (R_nilCheck rfl rfl) ?_
    refine WM_val rfl rfl rfl rfl (R_fieldAddr rfl fa92_2 rfl) ?_
    refine WM_val rfl rfl rfl rfl (R_load rfl sc89 rfl (mmC) rfl) ?_
    refine WM_val rfl rfl rfl rfl (R_loadA (vs := [_, _]) rfl ag108 rfl (mmC) rfl (atZ)) ?_
    refine WM_do rfl rfl rfl rfl (D_call (p_wake m.l h.pk (by omega) (n, dir)) rfl rfl rfl rfl (pqC)) ?_
    rintro _ _ ⟨_, ⟨l', rfl, rfl, hlp, hl'⟩, rfl⟩
    refine ⟨⟨_, pqC⟩, ?_⟩
    simp only [poE]
    rw [← hlp]
    refine WM_val rfl rfl rfl rfl (R_move rfl rfl) ?_
    refine WM_val rfl rfl rfl rfl (R_extract rfl rfl rfl) ?_
    refine WM_val rfl rfl rfl rfl (R_extract rfl rfl rfl) ?_
    refine WM_val rfl rfl rfl rfl (R_assign rfl rfl) ?_
    refine WM_val rfl rfl rfl rfl (R_assign rfl rfl) ?_
    refine WM_nil ?_
    refine WQ_code ?_
    refine WC_seq ?_
    refine WC_seq ?_
    refine WC_region ?_
    refine WL_val rfl rfl rfl (R_move rfl rfl) ?_
    refine WL_val rfl rfl rfl (R_eql rfl rfl rfl) ?_
    refine WL_nil ?_
    refine WQ_code ?_
    refine WC_dec rfl (fun c1 => ?_) (fun c1 => ?_)
    · obtain ⟨j, hj, hjl⟩ := wakeR_lt h.pk c1
      have hz0 : (z.s.wakeR (n, dir)).2 = 0 := c1
      have hjt : (z.s.wakeR (n, dir)).1.toNat = j := by omega
      obtain ⟨u9, hu9⟩ := exE (T := z.R) (i := j) (by rw [h.rl]; exact hjl)
      have hput : putAt (ivs z.R ++ m.rtl) (0 + (z.s.wakeR (n, dir)).1.toNat * 1) [.int .i64 1] = ivs (z.R.set (z.s.wakeR (n, dir)).1.toNat 1) ++ m.rtl := by rw [hjt]; exact fm_put0 encI1 (1 : Int) hu9 (j := 0) (vs := [.int .i64 1]) (by simp) rfl (tl := m.rtl)
      refine WC_region ?_
      refine WL_val rfl rfl rfl (R_move rfl rfl) ?_
      refine WL_val rfl rfl rfl (R_nilCheck rfl rfl) ?_
      refine WL_val rfl rfl rfl (R_fieldAddr rfl fa92_3 rfl) ?_
      refine WL_val rfl rfl rfl (R_load rfl sc90 rfl (mmC) rfl) ?_
      refine WL_val rfl rfl rfl (R_move rfl rfl) ?_
      refine WL_val rfl rfl rfl (R_indexAddr rfl Tryz.underlying90 Tryz.sizeOf45 rfl rfl (by exact ⟨by omega, by rw [h.rl]; omega⟩)) ?_
      refine WL_do0 rfl rfl (D_store (vs := [_]) rfl Tryz.sizeOf45 rfl rfl rfl rfl rfl (plC) (by exact (show _ ≤ _ by rw [hjt]; exact fm_room0 encI1 (show j < z.R.length by rw [h.rl]; exact hjl) (j := 0) (by omega)))) ?_
      rintro _ _ rfl
      rw [hput]
      rw [show z.R.length = (z.R.set (z.s.wakeR (n, dir)).1.toNat 1).length from (List.length_set ..).symm]
      refine WL_nil ?_
      refine WQ_code ?_
      refine WC_seq ?_
      refine WC_region ?_
      refine WL_val rfl rfl rfl (R_move rfl rfl) ?_
      refine WL_val rfl rfl rfl (R_move rfl rfl) ?_
      refine WL_val rfl rfl rfl (R_assign rfl rfl) ?_
      refine WL_val rfl rfl rfl (R_assign rfl rfl) ?_
      refine WL_nil ?_
      refine WQ_code ?_
      refine WC_ret ?_
      refine WQ_ret rfl rfl (.cons (.tmp rfl) (.cons (.tmp rfl) .nil)) rfl (by
          exact ⟨{ m with l := l' }, rfl, by rw [if_pos hz0], rfl, by rw [if_pos hz0]; exact h.lotR (Nat.le_succ N) hl' (wake_sm _ _) _ 1⟩) (pqC)
    · have hz0 : ¬ (z.s.wakeR (n, dir)).2 = 0 := c1
      refine WC_skip ?_
      refine WQ_code ?_
      refine WC_seq ?_
      refine WC_region ?_
      refine WL_val rfl rfl rfl (R_move rfl rfl) ?_
      refine WL_val rfl rfl rfl (R_move rfl rfl) ?_
      refine WL_val rfl rfl rfl (R_assign rfl rfl) ?_
      refine WL_val rfl rfl rfl (R_assign rfl rfl) ?_
      refine WL_nil ?_
      refine WQ_code ?_
      refine WC_ret ?_
      refine WQ_ret rfl rfl (.cons (.tmp rfl) (.cons (.tmp rfl) .nil)) rfl (by
          have h7 := h.lot (Nat.le_succ N) hl' (wake_sm _ _)
          have e7 : z.s.wake (n, dir) = z.s := by unfold PS.wake; rw [if_neg hz0]
          rw [e7] at h7
          exact ⟨{ m with l := l' }, rfl, by rw [if_neg hz0], rfl, by rw [if_neg hz0]; exact h7⟩) (pqC)
  · have e8 : z.sigR n g dir = (0, z.spE n g dir) := if_neg he
    have e9 : z.sig n g dir = z := by unfold PoS.sig; rw [e8, if_neg he]
    rw [e8, e9]
    refine Spec.of (E := [(0, ptrH m.p), (1, .agg #[.int .i64 n, .int .i64 g]), (2, .int .i64 dir)]) Tryz.func24 rfl (by kernel_rfl) Tryz.ntmps24 rfl rfl (fun w => ?_)
    refine WC_seq ?_
    refine WC_region ?_
    refine WL_do rfl rfl rfl (D_box (cs := [_, _]) rfl rfl rfl) ?_
    rintro _ _ ⟨b1, rfl, rfl⟩
    refine WL_val rfl rfl rfl (R_assign rfl rfl) ?_
    refine WL_val rfl rfl rfl (R_assign rfl rfl) ?_
    refine WL_nil ?_
    refine WQ_code ?_
    refine WC_seq ?_
    refine WC_region ?_
    refine WL_val rfl rfl rfl (R_move rfl rfl) ?_
    refine WL_val rfl rfl rfl (R_loadA (vs := [_, _]) rfl ag30 rfl (mmC) rfl (atZ)) ?_
    refine WL_val rfl rfl rfl (R_move rfl rfl) ?_
    refine WL_do rfl rfl rfl (D_call (po_spot m h (by omega) n g dir) rfl rfl rfl rfl (pqC)) ?_
    rintro _ _ ⟨_, ⟨rfl, rfl⟩, rfl⟩
    refine WL_val rfl rfl rfl (R_move rfl rfl) ?_
    refine WL_val rfl rfl rfl (R_extract rfl rfl rfl) ?_
    refine WL_val rfl rfl rfl (R_extract rfl rfl rfl) ?_
    refine WL_do rfl rfl rfl (D_alloc rfl zv108) ?_
    rintro _ _ ⟨b2, rfl, rfl⟩
    refine WL_do0 rfl rfl (D_store (vs := [_, _]) rfl Tryz.sizeOf108 rfl rfl rfl rfl rfl (plC) (by exact Nat.le_of_ble_eq_true rfl)) ?_
    rintro _ _ rfl
    refine WL_val rfl rfl rfl (R_assign rfl rfl) ?_
    refine WL_nil ?_
    refine WQ_code ?_
    refine WC_seq ?_
    refine WC_seq ?_
    refine WC_region ?_
    refine WL_val rfl rfl rfl (R_move rfl rfl) ?_
    refine WL_val rfl rfl rfl (R_neq rfl rfl rfl) ?_
    refine WL_nil ?_
    refine WQ_code ?_
    refine WC_dT rfl (by exact he) ?_
    refine WC_seq ?_
    refine WC_region ?_
    refine WL_val rfl rfl rfl (R_move rfl rfl) ?_
    refine WL_val rfl rfl rfl (R_assign rfl rfl) ?_
    refine WL_val rfl rfl rfl (R_assign rfl rfl) ?_
    refine WL_nil ?_
    refine WQ_code ?_
    refine WC_ret ?_
    refine WQ_ret rfl rfl (.cons (.tmp rfl) (.cons (.tmp rfl) .nil)) rfl (by
        exact ⟨m, rfl, rfl, rfl, h.mono (by omega)⟩) (pqC)
theorem po_wait {N : Nat} {z : PoS} (m : PoM) (h : PoIs N z m) (hN : N ≤ 700000) (i n g dir : Int) : Spec Tryz.prog 16 [ptrH m.p, .int .i64 i, .agg #[.int .i64 n, .int .i64 g], .int .i64 dir] (poH z m) (fun x H' => ∃ m' : PoM, x = .int .i64 (z.waitE i n g dir) ∧ H' = poH (z.wait i n g dir) m' ∧ m'.p = m.p ∧ PoIs (N + 1) (z.wait i n g dir) m') := by
  refine Spec.of (E := [(0, ptrH m.p), (1, .int .i64 i), (2, .agg #[.int .i64 n, .int .i64 g]), (3, .int .i64 dir)]) Tryz.func16 rfl (by kernel_rfl) Tryz.ntmps16 rfl rfl (fun w => ?_)
  refine WC_seq ?_
  refine WC_region ?_
  refine WL_do rfl rfl rfl (D_box (cs := [_, _]) rfl rfl rfl) ?_
  rintro _ _ ⟨b1, rfl, rfl⟩
  refine WL_val rfl rfl rfl (R_assign rfl rfl) ?_
  refine WL_nil ?_
  refine WQ_code ?_
  refine WC_seq ?_
  refine WC_region ?_
  refine WL_val rfl rfl rfl (R_move rfl rfl) ?_
  refine WL_val rfl rfl rfl (R_move rfl rfl) ?_
  refine WL_do rfl rfl rfl (D_call (po_state m h (by omega) i) rfl rfl rfl rfl (pqC)) ?_
  rintro _ _ ⟨_, ⟨rfl, rfl⟩, rfl⟩
  refine WL_val rfl rfl rfl (R_move rfl rfl) ?_
  refine WL_val rfl rfl rfl (R_extract rfl rfl rfl) ?_
  refine WL_val rfl rfl rfl (R_extract rfl rfl rfl) ?_
  refine WL_val rfl rfl rfl (R_assign rfl rfl) ?_
  refine WL_val rfl rfl rfl (R_assign rfl rfl) ?_
  refine WL_nil ?_
  refine WQ_code ?_
  refine WC_seq ?_
  refine WC_seq ?_
  refine WC_region ?_
  refine WL_val rfl rfl rfl (R_move rfl rfl) ?_
  refine WL_val rfl rfl rfl (R_neq rfl rfl rfl) ?_
  refine WL_nil ?_
  refine WQ_code ?_
  refine WC_dec rfl (fun c1 => ?_) (fun c1 => ?_)
  · have e9 : z.waitE i n g dir = (stR z.s.sm i).2 := if_pos c1
    have e8 : z.wait i n g dir = z := if_neg (by rw [e9]; exact c1)
    refine WC_seq ?_
    refine WC_region ?_
    refine WL_val rfl rfl rfl (R_move rfl rfl) ?_
    refine WL_val rfl rfl rfl (R_assign rfl rfl) ?_
    refine WL_nil ?_
    refine WQ_code ?_
    refine WC_ret ?_
    refine WQ_ret rfl rfl (.cons (.tmp rfl) .nil) rfl (by
        rw [e8, e9]
        exact ⟨m, rfl, rfl, rfl, h.mono (Nat.le_succ N)⟩) (pqC)
  · have q1 : ¬ (stR z.s.sm i).2 ≠ 0 := c1
    refine WC_skip ?_
    refine WQ_code ?_
    refine WC_seq ?_
    refine WC_region ?_
    refine WL_val rfl rfl rfl (R_move rfl rfl) ?_
    refine WL_val rfl rfl rfl (R_loadA (vs := [_, _]) rfl ag30 rfl (mmC) rfl (atZ)) ?_
    refine WL_val rfl rfl rfl (R_move rfl rfl) ?_
    refine WL_do rfl rfl rfl (D_call (po_spot m h (by omega) n g dir) rfl rfl rfl rfl (pqC)) ?_
    rintro _ _ ⟨_, ⟨rfl, rfl⟩, rfl⟩
    refine WL_val rfl rfl rfl (R_move rfl rfl) ?_
    refine WL_val rfl rfl rfl (R_extract rfl rfl rfl) ?_
    refine WL_val rfl rfl rfl (R_extract rfl rfl rfl) ?_
    refine WL_do rfl rfl rfl (D_alloc rfl zv108) ?_
    rintro _ _ ⟨b2, rfl, rfl⟩
    refine WL_do0 rfl rfl (D_store (vs := [_, _]) rfl Tryz.sizeOf108 rfl rfl rfl rfl rfl (plC) (by exact Nat.le_of_ble_eq_true rfl)) ?_
    rintro _ _ rfl
    refine WL_val rfl rfl rfl (R_assign rfl rfl) ?_
    refine WL_nil ?_
    refine WQ_code ?_
    refine WC_seq ?_
    refine WC_block ?_
    refine WC_seq ?_
    refine WC_region ?_
    refine WL_val rfl rfl rfl (R_move rfl rfl) ?_
    refine WL_val rfl rfl rfl (R_neq rfl rfl rfl) ?_
    refine WL_val rfl rfl rfl (R_assign rfl rfl) ?_
    refine WL_nil ?_
    refine WQ_code ?_
    refine WC_dec rfl (fun c2 => ?_) (fun c2 => ?_)
    · have e9 : z.waitE i n g dir = z.spE n g dir := by unfold PoS.waitE; rw [if_neg q1, if_pos c2]
      have e8 : z.wait i n g dir = z := if_neg (by rw [e9]; exact c2)
      refine WC_seq ?_
      refine WC_region ?_
      refine WL_val rfl rfl rfl (R_move rfl rfl) ?_
      refine WL_val rfl rfl rfl (R_assign rfl rfl) ?_
      refine WL_nil ?_
      refine WQ_code ?_
      refine WC_ret ?_
      refine WQ_ret rfl rfl (.cons (.tmp rfl) .nil) rfl (by
          rw [e8, e9]
          exact ⟨m, rfl, rfl, rfl, h.mono (Nat.le_succ N)⟩) (pqC)
    · have q2 : ¬ z.spE n g dir ≠ 0 := c2
      refine WC_seq ?_
      refine WC_region ?_
      refine WL_val rfl rfl rfl (R_move rfl rfl) ?_
      refine WL_val rfl rfl rfl (R_neq rfl rfl rfl) ?_
      refine WL_val rfl rfl rfl (R_assign rfl rfl) ?_
      refine WL_nil ?_
      refine WQ_code ?_
      refine WC_dec rfl (fun c3 => ?_) (fun c3 => ?_)
      · have e9 : z.waitE i n g dir = 8 := by unfold PoS.waitE; rw [if_neg q1, if_neg q2, if_pos c3]
        have e8 : z.wait i n g dir = z := if_neg (by rw [e9]; decide)
        refine WC_seq ?_
        refine WC_region ?_
        refine WL_val rfl rfl rfl (R_assign rfl rfl) ?_
        refine WL_nil ?_
        refine WQ_code ?_
        refine WC_ret ?_
        refine WQ_ret rfl rfl (.cons (.tmp rfl) .nil) rfl (by
            rw [e8, e9]
            exact ⟨m, rfl, rfl, rfl, h.mono (Nat.le_succ N)⟩) (pqC)
      · have q3 : ¬ (stR z.s.sm i).1 ≠ 1 := c3
        refine WC_skip ?_
        refine WQ_code ?_
        refine WC_seq ?_
        refine WC_seq ?_
        refine WC_region ?_
        refine WL_val rfl rfl rfl (R_move rfl rfl) ?_
        refine WL_val rfl rfl rfl (R_loadA (vs := [_, _]) rfl ag30 rfl (mmC) rfl (atZ)) ?_
        refine WL_val rfl rfl rfl (R_move rfl rfl) ?_
        refine WL_do rfl rfl rfl (D_call (po_chk m h (by omega) n g dir) rfl rfl rfl rfl (pqC)) ?_
        rintro _ _ ⟨_, ⟨rfl, rfl⟩, rfl⟩
        refine WL_val rfl rfl rfl (R_assign rfl rfl) ?_
        refine WL_nil ?_
        refine WQ_code ?_
        refine WC_seq ?_
        refine WC_region ?_
        refine WL_val rfl rfl rfl (R_move rfl rfl) ?_
        refine WL_val rfl rfl rfl (R_neq rfl rfl rfl) ?_
        refine WL_nil ?_
        refine WQ_code ?_
        refine WC_dec rfl (fun c4 => ?_) (fun c4 => ?_)
        · have e9 : z.waitE i n g dir = z.chk n g dir := by unfold PoS.waitE; rw [if_neg q1, if_neg q2, if_neg q3]
          have e8 : z.wait i n g dir = z := if_neg (by rw [e9]; exact c4)
          refine WC_seq ?_
          refine WC_region ?_
          refine WL_val rfl rfl rfl (R_move rfl rfl) ?_
          refine WL_val rfl rfl rfl (R_assign rfl rfl) ?_
          refine WL_nil ?_
          refine WQ_code ?_
          refine WC_ret ?_
          refine WQ_ret rfl rfl (.cons (.tmp rfl) .nil) rfl (by
              rw [e8, e9]
              exact ⟨m, rfl, rfl, rfl, h.mono (Nat.le_succ N)⟩) (pqC)
        · have e9 : z.waitE i n g dir = 0 := by unfold PoS.waitE; rw [if_neg q1, if_neg q2, if_neg q3]; exact Decidable.not_not.1 c4
          have e8 : z.wait i n g dir = { z with s := z.s.park i (n, dir) } := if_pos e9
          obtain ⟨hv, hsp⟩ := spE_vld h (Decidable.not_not.1 q2)
          rw [hsp]
          have e7 : z.s.parkE i (n, dir) = 0 := by unfold PS.parkE; rw [if_neg q1, if_pos hv, if_pos (Decidable.not_not.1 q3)]
          refine WC_skip ?_
          refine WQ_code ?_
          refine WC_seq ?_
          refine WC_draw ([⟨some b2, _⟩, ⟨some m.p, _⟩]) [(0, true), (1, true), (2, true), (3, true), (4, true), (5, true), (6, false), (7, true)] followsMixed rfl rfl (by kernel_rfl) pqC ?_
          refine WM_val rfl rfl rfl rfl (R_move rfl rfl) ?_
          refine WM_val rfl rfl rfl rfl (R_nilCheck rfl rfl) ?_
          refine WM_val rfl rfl rfl rfl (R_fieldAddr rfl fa92_2 rfl) ?_
          refine WM_val rfl rfl rfl rfl (R_load rfl sc89 rfl (mmC) rfl) ?_
          refine WM_val rfl rfl rfl rfl (R_move rfl rfl) ?_
          refine WM_val rfl rfl rfl rfl (R_loadA (vs := [_, _]) rfl ag108 rfl (mmC) rfl (atZ)) ?_
          refine WM_do rfl rfl rfl rfl (D_call (p_park m.l h.pk (by omega) i (n, dir)) rfl rfl rfl rfl (pqC)) ?_
          rintro _ _ ⟨_, ⟨l', rfl, rfl, hlp, hl'⟩, rfl⟩
          refine ⟨⟨_, pqC⟩, ?_⟩
          simp only [poE]
          rw [← hlp, e7]
          refine WM_val rfl rfl rfl rfl (R_assign rfl rfl) ?_
          refine WM_nil ?_
          refine WQ_code ?_
          refine WC_ret ?_
          refine WQ_ret rfl rfl (.cons (.tmp rfl) .nil) rfl (by
              rw [e8, e9]
              exact ⟨{ m with l := l' }, rfl, rfl, rfl, h.lot (Nat.le_succ N) hl' (park_sm _ _ _)⟩) (pqC)
end Go.Proofs.YtbkdebnkoidicaaGreat
end
section
set_option linter.unusedVariables false
set_option maxRecDepth 20000
set_option maxHeartbeats 4000000
namespace Go.Proofs.YtbkdebnkoidicaaGreat
theorem po_adv {N : Nat} {z : PoS} (m : PoM) (h : PoIs N z m) (hN : N ≤ 700000) (to : Nat) (hto : to ≤ 18446744073709551615) : Spec Tryz.prog 18 [ptrH m.p, .int .u64 (to : Int)] (poH z m)
    (fun x H' => ∃ (l : List Lp) (m' : PoM) (ob : Option Nat) (c : Nat) (tl : List Value), LapR11 z.f z.now to l ∧ l.length ≤ 1024 ∧ x = .tuple #[slV ob ((z.advS to).laps l).2.length c, .int .i64 (advE11 z.now to)] ∧ Own ob ((z.advS to).laps l).2.length c 1 (ivs ((z.advS to).laps l).2) tl ∧ H' = ⟨ob, cl (ivs ((z.advS to).laps l).2 ++ tl) 3⟩ :: poH ((z.advS to).laps l).1 m' ∧ m'.p = m.p ∧ PoIs (N + 64) ((z.advS to).laps l).1 m') := by
  have hW := h.pk.ps.few
  have hdn := h.dn
  refine Spec.of (E := [(0, ptrH m.p), (1, .int .u64 (to : Int))]) Tryz.func18 rfl (by kernel_rfl) Tryz.ntmps18 rfl rfl (fun w => ?_)
  refine WC_seq ?_
  refine WC_region ?_
  refine WL_val rfl rfl rfl (R_assign rfl rfl) ?_
  refine WL_val rfl rfl rfl (R_assign rfl rfl) ?_
  refine WL_nil ?_
  refine WQ_code ?_
  refine WC_seq ?_
  refine WC_seq ?_
  refine WC_region ?_
  refine WL_val rfl rfl rfl (R_move rfl rfl) ?_
  refine WL_do rfl rfl rfl (D_call (po_zero z.R.length m) rfl rfl rfl rfl (pqC)) ?_
  rintro _ _ ⟨_, ⟨rfl, rfl⟩, rfl⟩
  refine WL_nil ?_
  refine WQ_code ?_
  refine WC_F rfl ?_
  refine WC_skip ?_
  refine WQ_code ?_
  refine WC_seq ?_
  refine WC_region ?_
  refine WL_val rfl rfl rfl (R_move rfl rfl) ?_
  refine WL_val rfl rfl rfl (R_nilCheck rfl rfl) ?_
  refine WL_val rfl rfl rfl (R_fieldAddr rfl fa92_1 rfl) ?_
  refine WL_val rfl rfl rfl (R_load rfl sc88 rfl (mmC) rfl) ?_
  refine WL_val rfl rfl rfl (R_move rfl rfl) ?_
  refine WL_do rfl rfl rfl (D_call (d_adv m.d h.di to hto) rfl rfl rfl rfl (pqC)) ?_
  rintro _ _ ⟨_, ⟨l, ob, c, tl, d', rfl, own, hlap, hll, rfl, hdp, hdd, hd'⟩, rfl⟩
  simp only [poE]
  rw [← hdp]
  have h2 : PoIs N (z.advS to) { m with d := d' } := h.ends (Nat.le_refl N) hd' (by omega)
  refine WL_val rfl rfl rfl (R_move rfl rfl) ?_
  refine WL_val rfl rfl rfl (R_extract rfl rfl rfl) ?_
  refine WL_val rfl rfl rfl (R_extract rfl rfl rfl) ?_
  refine WL_val rfl rfl rfl (R_assign rfl rfl) ?_
  refine WL_val rfl rfl rfl (R_assign rfl rfl) ?_
  refine WL_nil ?_
  refine WQ_code ?_
  refine WC_seq ?_
  refine WC_region ?_
  refine WL_val rfl rfl rfl (R_assign rfl rfl) ?_
  refine WL_nil ?_
  refine WQ_code ?_
  refine WC_seq ?_
  refine WC_seq ?_
  refine WC_region ?_
  refine WL_val rfl rfl rfl (R_move rfl rfl) ?_
  refine WL_val rfl rfl rfl (R_len rfl Tryz.underlying72 rfl) ?_
  refine WL_val rfl rfl rfl (R_move rfl rfl) ?_
  refine WL_nil ?_
  refine WQ_code ?_
  refine WC_block ?_
  refine WC_none 3 ?_
  refine WC_loopF (G := AdW) [8, 10, 24, 25, 26, 27, 28, 29, 30, 31, 32, 33, 34] (fun y => y.k ≤ l.length ∧ y.z = ((z.advS to).laps (l.take y.k)).1 ∧ y.o = ((z.advS to).laps (l.take y.k)).2 ∧ PoIs y.n y.z y.m ∧ y.n + y.z.s.W.length ≤ N + 64 ∧ y.o.length + y.z.s.W.length ≤ 64 ∧ y.m.p = m.p ∧ Own y.ob y.o.length y.c 1 (ivs y.o) y.tl) (fun y => [(24, .int .i64 (y.k : Int)), (8, slV y.ob y.o.length y.c)]) (fun y => ⟨y.ob, cl (ivs y.o ++ y.tl) 3⟩ :: poH y.z y.m) (fun y => l.length - y.k) (⟨0, z.advS to, { m with d := d' }, N, [], none, 0, []⟩) (⟨Nat.zero_le _, by rw [List.take_zero]; rfl, by rw [List.take_zero]; rfl, h2, by (show N + z.s.W.length ≤ _); omega, by (show 0 + z.s.W.length ≤ _); omega, rfl, Own.empty 1⟩) leZ (pqC) ?_
  rintro y ⟨hyk, hyz, hyl, hyi, hyn, hyw, hyp, hyo⟩
  rw [← hyp]
  refine WC_seq ?_
  refine WC_region ?_
  refine WL_val rfl rfl rfl (R_lss rfl rfl rfl) ?_
  refine WL_nil ?_
  refine WQ_code ?_
  refine WC_seq ?_
  refine WC_dec rfl (fun c1 => ?_) (fun c1 => ?_)
  · refine WC_skip ?_
    refine WQ_code ?_
    refine WC_seq ?_
    refine WC_block ?_
    refine WC_seq ?_
    refine WC_region ?_
    obtain ⟨x, hx⟩ := exE (T := l) (i := y.k) (by omega)
    obtain ⟨wb, hwb⟩ := own.some_of (by omega)
    rw [hwb]
    have hwk := wakes_W hyi.pk.ps (x.fd, x.dir)
    refine WL_val rfl rfl rfl (R_indexAddrN rfl Tryz.underlying72 Tryz.sizeOf117 rfl rfl (by omega)) ?_
    refine WL_val rfl rfl rfl (R_loadA (vs := encLp x) rfl ag117 rfl (mmC) rfl (fm_at0 encLp3 hx (j := 0) (vs := encLp x) (fun j v h => by rw [Nat.zero_add]; exact h) (Nat.le_refl _))) ?_
    refine WL_do rfl rfl rfl (D_alloc rfl zv117) ?_
    rintro _ _ ⟨b1, rfl, rfl⟩
    refine WL_do0 rfl rfl (D_store (vs := [_, _, _]) rfl Tryz.sizeOf117 rfl rfl rfl rfl rfl (plC) (by exact Nat.le_of_ble_eq_true rfl)) ?_
    rintro _ _ rfl
    refine WL_nil ?_
    refine WQ_code ?_
    refine WC_region ?_
    refine WL_val rfl rfl rfl (R_move rfl rfl) ?_
    refine WL_val rfl rfl rfl (R_move rfl rfl) ?_
    refine WL_val rfl rfl rfl (R_fieldAddr rfl fa117_0 rfl) ?_
    refine WL_val rfl rfl rfl (R_loadA (vs := [_, _]) rfl ag108 rfl (mmC) rfl (atZ)) ?_
    refine WL_do rfl rfl rfl (D_call (po_all y.m hyi (by omega) (x.fd, x.dir) 2) rfl rfl rfl rfl (pqC)) ?_
    rintro _ _ ⟨_, ⟨m2, o2, c2, tl2, rfl, own2, rfl, hm2, h3⟩, rfl⟩
    have pm2 : m2.p = y.m.p := hm2
    refine WL_do rfl rfl rfl (D_appendO rfl si34 rfl hyo plC rfl own2 mmC (ivs_1 _) (by omega) (by omega)) ?_
    rintro _ _ ⟨o5, c5, tl5, rfl, own5, rfl⟩
    rw [ivs_app, ← List.length_append] at own5
    rw [ivs_app, ← List.length_append]
    refine WL_val rfl rfl rfl (R_assign rfl rfl) ?_
    refine WL_nil ?_
    refine WQ_code ?_
    refine WC_region ?_
    refine WL_val rfl rfl rfl (R_add rfl rfl rfl (by omega)) ?_
    refine WL_val rfl rfl rfl (R_move rfl rfl) ?_
    refine WL_nil ?_
    rw [← pm2]
    refine WQ_nextF (gg := y) (⟨y.k + 1, y.z.all (x.fd, x.dir) 2, m2, y.n + (y.z.s.waiting (x.fd, x.dir)).length, y.o ++ y.z.s.waiting (x.fd, x.dir), o5, c5, tl5⟩) (⟨by dsimp only; omega, by dsimp only; rw [tk_next hx, laps_snoc, ← hyz], by dsimp only; rw [tk_next hx, laps_snoc, ← hyz, ← hyl], h3, by (show y.n + _ + (y.z.s.wakeAll (x.fd, x.dir)).W.length ≤ _); omega, by (show (y.o ++ _).length + (y.z.s.wakeAll (x.fd, x.dir)).W.length ≤ _); rw [List.length_append]; omega, rfl, own5⟩) (by dsimp only; omega) leZ (psZ) rfl (pqC)
  · have hkl : y.k = l.length := by omega
    have hzf : y.z = ((z.advS to).laps l).1 := by rw [hyz, hkl, List.take_length]
    have hof : y.o = ((z.advS to).laps l).2 := by rw [hyl, hkl, List.take_length]
    refine WC_exit ?_
    refine WQ_code ?_
    refine WC_seq ?_
    refine WC_region ?_
    refine WL_val rfl rfl rfl (R_move rfl rfl) ?_
    refine WL_val rfl rfl rfl (R_move rfl rfl) ?_
    refine WL_val rfl rfl rfl (R_assign rfl rfl) ?_
    refine WL_val rfl rfl rfl (R_assign rfl rfl) ?_
    refine WL_nil ?_
    refine WQ_code ?_
    refine WC_ret ?_
    refine WQ_ret rfl rfl (.cons (.tmp rfl) (.cons (.tmp rfl) .nil)) rfl (by
        exact ⟨l, y.m, y.ob, y.c, y.tl, hlap, hll, by rw [← hof]; rfl, by rw [← hof]; exact hyo, by rw [← hzf, ← hof], rfl, by rw [← hzf]; exact hyi.mono (by omega)⟩) (pqC)
end Go.Proofs.YtbkdebnkoidicaaGreat
end
section
set_option linter.unusedVariables false
set_option maxRecDepth 20000
set_option maxHeartbeats 2000000
namespace Go.Proofs.YtbkdebnkoidicaaGreat
theorem lfd_ok (n g : Int) : Spec Tryz.prog 11 [.int .i64 n, .int .i64 g] [] (fun x H' => x = .agg #[.int .i64 n, .int .i64 g] ∧ H' = []) := by
  refine Spec.of (E := [(0, .int .i64 n), (1, .int .i64 g)]) Tryz.func11 rfl (by kernel_rfl) Tryz.ntmps11 rfl rfl (fun w => ?_)
  refine WC_seq ?_
  refine WC_region ?_
  refine WL_do rfl rfl rfl (D_alloc rfl zv30) ?_
  rintro _ _ ⟨b1, rfl, rfl⟩
  refine WL_nil ?_
  refine WQ_code ?_
  refine WC_seq ?_
  refine WC_region ?_
  refine WL_val rfl rfl rfl (R_move rfl rfl) ?_
  refine WL_val rfl rfl rfl (R_move rfl rfl) ?_
  refine WL_val rfl rfl rfl (R_build rfl zv30 pl30 rfl rfl) ?_
  refine WL_do0 rfl rfl (D_store (vs := [_, _]) rfl Tryz.sizeOf30 rfl rfl rfl rfl rfl (plC) (by exact Nat.le_of_ble_eq_true rfl)) ?_
  rintro _ _ rfl
  refine WL_nil ?_
  refine WQ_code ?_
  refine WC_ret ?_
  refine WQ_ret rfl rfl (.cons (.cell (vs := [_, _]) rfl ag30 (mmC) rfl (atZ)) .nil) rfl (by
      exact ⟨rfl, rfl⟩) (pqC)
theorem opens_ok {N : Nat} {z : PoS} (m : PoM) (h : PoIs N z m) (hN : N ≤ 700000) (v wn wg : Int) (hw : opnR z.T = ((wn, wg), 0)) : Spec Tryz.prog 14 [ptrH m.p, .int .i64 v, .agg #[.int .i64 wn, .int .i64 wg]] (poH z m) (fun x H' => x = .bool true ∧ H' = poH (z.openE v) m ∧ PoIs (N + 1) (z.openE v) m) := by
  refine Spec.of (E := [(0, ptrH m.p), (1, .int .i64 v), (2, .agg #[.int .i64 wn, .int .i64 wg])]) Tryz.func14 rfl (by kernel_rfl) Tryz.ntmps14 rfl rfl (fun w => ?_)
  refine WC_seq ?_
  refine WC_region ?_
  refine WL_do rfl rfl rfl (D_box (cs := [_, _]) rfl rfl rfl) ?_
  rintro _ _ ⟨b1, rfl, rfl⟩
  refine WL_val rfl rfl rfl (R_assign rfl rfl) ?_
  refine WL_nil ?_
  refine WQ_code ?_
  refine WC_seq ?_
  refine WC_region ?_
  refine WL_val rfl rfl rfl (R_move rfl rfl) ?_
  refine WL_val rfl rfl rfl (R_move rfl rfl) ?_
  refine WL_do rfl rfl rfl (D_call (po_open m h (by omega) v) rfl rfl rfl rfl (pqC)) ?_
  rintro _ _ ⟨_, ⟨rfl, rfl, h2⟩, rfl⟩
  rw [hw]
  refine WL_val rfl rfl rfl (R_move rfl rfl) ?_
  refine WL_val rfl rfl rfl (R_extract rfl rfl rfl) ?_
  refine WL_val rfl rfl rfl (R_extract rfl rfl rfl) ?_
  refine WL_do rfl rfl rfl (D_alloc rfl zv30) ?_
  rintro _ _ ⟨b2, rfl, rfl⟩
  refine WL_do0 rfl rfl (D_store (vs := [_, _]) rfl Tryz.sizeOf30 rfl rfl rfl rfl rfl (plC) (by exact Nat.le_of_ble_eq_true rfl)) ?_
  rintro _ _ rfl
  refine WL_val rfl rfl rfl (R_assign rfl rfl) ?_
  refine WL_nil ?_
  refine WQ_code ?_
  refine WC_seq ?_
  refine WC_region ?_
  refine WL_val rfl rfl rfl (R_loadA (vs := [_, _]) rfl ag30 rfl (mmC) rfl (atZ)) ?_
  refine WL_val rfl rfl rfl (R_loadA (vs := [_, _]) rfl ag30 rfl (mmC) rfl (atZ)) ?_
  refine WL_val rfl rfl rfl (R_seq30 rfl rfl rfl rfl) ?_
  refine WL_set (s := 17) (v := .bool true) rfl (by simp) ?_
  refine WL_val rfl rfl rfl (R_move rfl rfl) ?_
  refine WL_val rfl rfl rfl (R_move rfl rfl) ?_
  refine WL_val rfl rfl rfl (R_eql rfl rfl rfl) ?_
  refine WL_set (s := 20) (v := .bool true) rfl (by simp) ?_
  refine WL_val rfl rfl rfl (R_pickT rfl rfl rfl) ?_
  refine WL_val rfl rfl rfl (R_assign rfl rfl) ?_
  refine WL_nil ?_
  refine WQ_code ?_
  refine WC_ret ?_
  refine WQ_ret rfl rfl (.cons (.tmp rfl) .nil) rfl (by
      exact ⟨rfl, rfl, h2⟩) (pqC)
theorem reason_ok {N : Nat} {z : PoS} (m : PoM) (h : PoIs N z m) (hN : N ≤ 700000) (i want : Int) (hw : z.rsn i = (want, 0)) : Spec Tryz.prog 19 [ptrH m.p, .int .i64 i, .int .i64 want] (poH z m) (fun x H' => x = .bool true ∧ H' = poH z m) := by
  refine Spec.of (E := [(0, ptrH m.p), (1, .int .i64 i), (2, .int .i64 want)]) Tryz.func19 rfl (by kernel_rfl) Tryz.ntmps19 rfl rfl (fun w => ?_)
  refine WC_seq ?_
  refine WC_region ?_
  refine WL_val rfl rfl rfl (R_assign rfl rfl) ?_
  refine WL_nil ?_
  refine WQ_code ?_
  refine WC_seq ?_
  refine WC_region ?_
  refine WL_val rfl rfl rfl (R_move rfl rfl) ?_
  refine WL_val rfl rfl rfl (R_move rfl rfl) ?_
  refine WL_do rfl rfl rfl (D_call (po_rsn m h (by omega) i) rfl rfl rfl rfl (pqC)) ?_
  rintro _ _ ⟨_, ⟨rfl, rfl⟩, rfl⟩
  rw [hw]
  refine WL_val rfl rfl rfl (R_move rfl rfl) ?_
  refine WL_val rfl rfl rfl (R_extract rfl rfl rfl) ?_
  refine WL_val rfl rfl rfl (R_extract rfl rfl rfl) ?_
  refine WL_val rfl rfl rfl (R_assign rfl rfl) ?_
  refine WL_val rfl rfl rfl (R_assign rfl rfl) ?_
  refine WL_nil ?_
  refine WQ_code ?_
  refine WC_seq ?_
  refine WC_region ?_
  refine WL_val rfl rfl rfl (R_move rfl rfl) ?_
  refine WL_val rfl rfl rfl (R_move rfl rfl) ?_
  refine WL_val rfl rfl rfl (R_eql rfl rfl rfl) ?_
  refine WL_set (s := 17) (v := .bool true) rfl (by simp) ?_
  refine WL_val rfl rfl rfl (R_move rfl rfl) ?_
  refine WL_val rfl rfl rfl (R_move rfl rfl) ?_
  refine WL_val rfl rfl rfl (R_eql rfl rfl rfl) ?_
  refine WL_set (s := 20) (v := .bool true) rfl (by simp) ?_
  refine WL_val rfl rfl rfl (R_pickT rfl rfl rfl) ?_
  refine WL_val rfl rfl rfl (R_assign rfl rfl) ?_
  refine WL_nil ?_
  refine WQ_code ?_
  refine WC_ret ?_
  refine WQ_ret rfl rfl (.cons (.tmp rfl) .nil) rfl (by
      exact ⟨rfl, rfl⟩) (pqC)
theorem woke_ok (l : List Int) (hl : l.length ≤ 1000000) (o1 : Option Nat) (c1 : Nat) (t1 : List Value) (o2 : Option Nat) (c2 : Nat) (t2 : List Value) (h1 : Own o1 l.length c1 1 (ivs l) t1) (h2 : Own o2 l.length c2 1 (ivs l) t2) :
    Spec Tryz.prog 13 [slV o1 l.length c1, .int .i64 0, slV o2 l.length c2] [⟨o1, cl (ivs l ++ t1) 3⟩, ⟨o2, cl (ivs l ++ t2) 3⟩] (fun r H' => r = .bool true ∧ H' = [⟨o1, cl (ivs l ++ t1) 3⟩, ⟨o2, cl (ivs l ++ t2) 3⟩]) := by
  refine Spec.of (E := [(0, slV o1 l.length c1), (1, .int .i64 0), (2, slV o2 l.length c2)]) Tryz.func13 rfl (by kernel_rfl) Tryz.ntmps13 rfl rfl (fun w => ?_)
  refine WC_seq ?_
  refine WC_region ?_
  refine WL_val rfl rfl rfl (R_assign rfl rfl) ?_
  refine WL_nil ?_
  refine WQ_code ?_
  refine WC_seq ?_
  refine WC_region ?_
  refine WL_val rfl rfl rfl (R_move rfl rfl) ?_
  refine WL_val rfl rfl rfl (R_move rfl rfl) ?_
  refine WL_do rfl rfl rfl (D_call (same_ok l hl o1 c1 t1 o2 c2 t2 h1 h2) rfl rfl rfl rfl (pqC)) ?_
  rintro _ _ ⟨_, ⟨rfl, rfl⟩, rfl⟩
  refine WL_val rfl rfl rfl (R_move rfl rfl) ?_
  refine WL_val rfl rfl rfl (R_move rfl rfl) ?_
  refine WL_val rfl rfl rfl (R_eql rfl rfl rfl) ?_
  refine WL_set (s := 12) (v := .bool true) rfl (by simp) ?_
  refine WL_val rfl rfl rfl (R_pickT rfl rfl rfl) ?_
  refine WL_val rfl rfl rfl (R_assign rfl rfl) ?_
  refine WL_nil ?_
  refine WQ_code ?_
  refine WC_ret ?_
  refine WQ_ret rfl rfl (.cons (.tmp rfl) .nil) rfl (by
      exact ⟨rfl, rfl⟩) (pqC)
theorem woke_none (o1 : Option Nat) (c1 : Nat) (t1 : List Value) (h1 : Own o1 ([] : List Int).length c1 1 (ivs []) t1) : Spec Tryz.prog 13 [slV o1 ([] : List Int).length c1, .int .i64 0, .slice none 0 0] [⟨o1, cl (ivs [] ++ t1) 3⟩, ⟨none, cl [] 3⟩] (fun r H' => r = .bool true ∧ H' = [⟨o1, cl (ivs [] ++ t1) 3⟩, ⟨none, cl [] 3⟩]) :=
  woke_ok [] (by decide) o1 c1 t1 none 0 [] h1 (Own.empty 1)
end Go.Proofs.YtbkdebnkoidicaaGreat
end
section
set_option linter.unusedVariables false
set_option maxRecDepth 20000
set_option maxHeartbeats 4000000
namespace Go.Proofs.YtbkdebnkoidicaaGreat
theorem WL_noneC {X : Ctx} {p : Post} {E : Env} {H : Heap} {ops : Array Oper} {l : List Oper} (e : TypeId) (k : WL X ops p l E (⟨none, cl [] e⟩ :: H)) : WL X ops p l E H := fun a w ha hw => k a w ha (hw.addNone e)
section
variable {N : Nat} {z : PoS} (m : PoM) (h : PoIs N z m) (hN : N ≤ 700000)
include h hN
theorem dead_run (n g dir : Int) (k : Nat) (hk : k ≤ 18446744073709551615) (L : List Int) (hL : z.deadL n g dir k = L) (he : z.spE n g dir = 0) : Spec Tryz.prog 17 [ptrH m.p, .agg #[.int .i64 n, .int .i64 g], .int .i64 dir, .int .u64 (k : Int)] (poH z m) (fun x H' => ∃ (m' : PoM) (ob : Option Nat) (c : Nat) (tl : List Value), x = .tuple #[slV ob L.length c, .int .i64 0] ∧ Own ob L.length c 1 (ivs L) tl ∧ H' = ⟨ob, cl (ivs L ++ tl) 3⟩ :: poH (z.dead n g dir k) m' ∧ m'.p = m.p ∧ PoIs (N + 65) (z.dead n g dir k) m') := by
  subst hL
  have := po_dead m h hN n g dir k hk
  rw [he] at this
  exact this
theorem close_run (n g : Int) (L : List Int) (hL : z.closeL n g = L) (he : (getT z.T n g).2 = 0) : Spec Tryz.prog 12 [ptrH m.p, .agg #[.int .i64 n, .int .i64 g]] (poH z m) (fun x H' => ∃ (m' : PoM) (ob : Option Nat) (c : Nat) (tl : List Value), x = .tuple #[slV ob L.length c, .int .i64 0] ∧ Own ob L.length c 1 (ivs L) tl ∧ H' = ⟨ob, cl (ivs L ++ tl) 3⟩ :: poH (z.close n g) m' ∧ m'.p = m.p ∧ PoIs (N + 130) (z.close n g) m') := by
  subst hL
  have := po_close m h hN n g
  rw [he] at this
  exact this
theorem adv_run (to : Nat) (hto : to ≤ 18446744073709551615) (l0 : List Lp) (hl0 : LapR11 z.f z.now to l0) (hE : advE11 z.now to = 0) (L : List Int) (hL : ((z.advS to).laps l0).2 = L) : Spec Tryz.prog 18 [ptrH m.p, .int .u64 (to : Int)] (poH z m)
    (fun x H' => ∃ (m' : PoM) (ob : Option Nat) (c : Nat) (tl : List Value), x = .tuple #[slV ob L.length c, .int .i64 0] ∧ Own ob L.length c 1 (ivs L) tl ∧ H' = ⟨ob, cl (ivs L ++ tl) 3⟩ :: poH ((z.advS to).laps l0).1 m' ∧ m'.p = m.p ∧ PoIs (N + 64) ((z.advS to).laps l0).1 m') := by
  subst hL
  refine (po_adv m h hN to hto).mono fun x H' ⟨l, m', ob, c, tl, h1, h2, h3, h4, h5, h6, h7⟩ => ?_
  obtain rfl := h1.one hl0
  rw [hE] at h3
  exact ⟨m', ob, c, tl, h3, h4, h5, h6, h7⟩
end
theorem start_f (z : PoS) (i : Int) : (z.start i).f = z.f := by unfold PoS.start; split <;> rfl
theorem wait_f (z : PoS) (i n g dir : Int) : (z.wait i n g dir).f = z.f := by unfold PoS.wait; split <;> rfl
theorem sig_f (z : PoS) (n g dir : Int) : (z.sig n g dir).f = z.f := by unfold PoS.sig; split <;> rfl
theorem dead_later {z : PoS} {n g dir : Int} {k : Nat} (he : z.spE n g dir = 0) (hk : ¬ k ≤ z.now) : z.dead n g dir k = { z with f := updF z.f (plS (n, dir)) k } := by unfold PoS.dead; rw [if_pos he, if_neg hk]
def kz0 : PoS := newS 3 10
def kz1 : PoS := kz0.openE 7
def kz2 : PoS := kz1.start 0
def kz3 : PoS := kz2.start 1
def kz4 : PoS := kz3.start 2
def kz5 : PoS := kz4.wait 0 0 0 0
def kz6 : PoS := kz5.wait 1 0 0 1
def kz7 : PoS := kz6.wait 2 0 0 0
def kz8 : PoS := kz7.dead 0 0 0 15
def kz9 : PoS := ((kz8.advS 14).laps []).1
def kz10 : PoS := kz9.sig 0 0 0
def kz11 : PoS := ((kz10.advS 15).laps [⟨0, 0, 15⟩]).1
def kz12 : PoS := kz11.close 0 0
def kz13 : PoS := kz12.openE 8
theorem kf0 : opnR kz0.T = ((0, 0), 0) := by decide +kernel
theorem kf1 : (stepR kz1.s.sm kz1.s.qm 0 1 0).1 = 0 := by decide +kernel
theorem kf2 : (stepR kz2.s.sm kz2.s.qm 0 1 1).1 = 0 := by decide +kernel
theorem kf3 : (stepR kz3.s.sm kz3.s.qm 0 1 2).1 = 0 := by decide +kernel
theorem kf4 : kz4.waitE 0 0 0 0 = 0 := by decide +kernel
theorem kf5 : kz5.waitE 1 0 0 1 = 0 := by decide +kernel
theorem kf6 : kz6.waitE 2 0 0 0 = 0 := by decide +kernel
theorem kf7 : kz7.deadL 0 0 0 15 = [] ∧ kz7.spE 0 0 0 = 0 ∧ ¬ 15 ≤ kz7.now := by decide +kernel
theorem kf8 : kz8.now = 10 ∧ kz9.now = 14 ∧ kz10.now = 14 ∧ advE11 kz8.now 14 = 0 ∧ advE11 kz10.now 15 = 0 := by decide +kernel
theorem kf9 : kz9.sigR 0 0 0 = (0, 0) ∧ kz10.rsn 0 = (1, 0) := by decide +kernel
theorem kf10 : ((kz10.advS 15).laps [⟨0, 0, 15⟩]).2 = [2] ∧ kz11.rsn 2 = (2, 0) ∧ kz11.chk 0 0 0 = 12 := by decide +kernel
theorem kf11 : kz11.closeL 0 0 = [1] ∧ (getT kz11.T 0 0).2 = 0 := by decide +kernel
theorem kf12 : kz12.rsn 1 = (3, 0) ∧ kz12.chk 0 0 0 = 9 ∧ opnR kz12.T = ((0, 1), 0) := by decide +kernel
theorem kf13 : kz13.chk 0 1 0 = 0 ∧ (kz13.whr 1).2 = 8 := by decide +kernel
theorem kff : kz7.f = fun _ => 18446744073709551615 := by
  unfold kz7 kz6 kz5 kz4 kz3 kz2 kz1 kz0
  rw [wait_f, wait_f, wait_f, start_f, start_f, start_f]; rfl
theorem kf8f : kz8.f = updF (fun _ => 18446744073709551615) 0 15 := by
  unfold kz8
  rw [dead_later kf7.2.1 kf7.2.2, kff]; rfl
theorem kf10f : kz10.f = updF (fun _ => 18446744073709551615) 0 15 := by
  unfold kz10
  rw [sig_f]; exact kf8f
theorem lap11_none : IsLap (updF (fun _ => 18446744073709551615) 0 15) 10 14 [] := by
  refine ⟨.nil, fun x => ⟨fun hx => (by cases hx), ?_⟩⟩
  rintro ⟨i, hi, h1, h2, rfl⟩
  unfold updF at h1 h2
  dsimp only at h1 h2
  split at h2 <;> omega
theorem lap11_one : IsLap (updF (fun _ => 18446744073709551615) 0 15) 14 15 [⟨0, 0, 15⟩] := by
  refine ⟨List.pairwise_singleton _ _, fun x => ⟨fun hx => ?_, ?_⟩⟩
  · rw [List.mem_singleton] at hx; subst hx
    exact ⟨0, by decide, by decide, by decide, rfl⟩
  · rintro ⟨i, hi, h1, h2, rfl⟩
    by_cases e : i = 0
    · subst e; exact List.mem_singleton.2 rfl
    · exfalso
      unfold updF at h2
      rw [if_neg e] at h2; dsimp only at h2; omega
theorem kl8 : LapR11 kz8.f kz8.now 14 [] := by
  unfold LapR11
  rw [if_pos kf8.2.2.2.1, kf8f, kf8.1]; exact lap11_none
theorem kl10 : LapR11 kz10.f kz10.now 15 [⟨0, 0, 15⟩] := by
  unfold LapR11
  rw [if_pos kf8.2.2.2.2, kf10f, kf8.2.2.1]; exact lap11_one
end Go.Proofs.YtbkdebnkoidicaaGreat
end
section
set_option linter.unusedVariables false
set_option maxRecDepth 20000
set_option maxHeartbeats 8000000
namespace Go.Proofs.YtbkdebnkoidicaaGreat
theorem known_ok : Spec Tryz.prog 8 [] [] (fun r H' => r = .bool true ∧ H' = []) := by
  refine Spec.of (E := []) Tryz.func8 rfl (by kernel_rfl) Tryz.ntmps8 rfl rfl (fun w => ?_)
  refine WC_seq ?_
  refine WC_region ?_
  refine WL_val rfl rfl rfl (R_assign rfl rfl) ?_
  refine WL_nil ?_
  refine WQ_code ?_
  refine WC_seq ?_
  refine WC_region ?_
  refine WL_do rfl rfl rfl (D_call (po_new 3 10 (by decide) (by decide) (by decide)) rfl rfl rfl rfl (pqC)) ?_
  rintro _ _ ⟨_, ⟨m0, rfl, rfl, g0⟩, rfl⟩
  have g0 : PoIs _ kz0 m0 := g0
  refine WL_val rfl rfl rfl (R_move rfl rfl) ?_
  refine WL_val rfl rfl rfl (R_extract rfl rfl rfl) ?_
  refine WL_val rfl rfl rfl (R_extract rfl rfl rfl) ?_
  refine WL_val rfl rfl rfl (R_assign rfl rfl) ?_
  refine WL_val rfl rfl rfl (R_assign rfl rfl) ?_
  refine WL_nil ?_
  refine WQ_code ?_
  refine WC_seq ?_
  refine WC_region ?_
  refine WL_do rfl rfl rfl (D_call (lfd_ok _ _) rfl rfl rfl rfl (pqC)) ?_
  rintro _ _ ⟨_, ⟨rfl, rfl⟩, rfl⟩
  refine WL_do rfl rfl rfl (D_alloc rfl zv30) ?_
  rintro _ _ ⟨b1, rfl, rfl⟩
  refine WL_do0 rfl rfl (D_store (vs := [_, _]) rfl Tryz.sizeOf30 rfl rfl rfl rfl rfl (plC) (by exact Nat.le_of_ble_eq_true rfl)) ?_
  rintro _ _ rfl
  refine WL_nil ?_
  refine WQ_code ?_
  refine WC_seq ?_
  refine WC_seq ?_
  refine WC_region ?_
  refine WL_val rfl rfl rfl (R_move rfl rfl) ?_
  refine WL_val rfl rfl rfl (R_ptrEqNil rfl Tryz.underlying23 rfl) ?_
  refine WL_val rfl rfl rfl (R_move rfl rfl) ?_
  refine WL_val rfl rfl rfl (R_move rfl rfl) ?_
  refine WL_val rfl rfl rfl (R_neq rfl rfl rfl) ?_
  refine WL_val rfl rfl rfl (R_pickF rfl rfl rfl) ?_
  refine WL_val rfl rfl rfl (R_move rfl rfl) ?_
  refine WL_set (s := 22) (v := .bool false) rfl (by simp) ?_
  refine WL_val rfl rfl rfl (R_move rfl rfl) ?_
  refine WL_val rfl rfl rfl (R_loadA (vs := [_, _]) rfl ag30 rfl (mmC) rfl (atZ)) ?_
  refine WL_do rfl rfl rfl (D_call (opens_ok m0 g0 (by omega) 7 0 0 kf0) rfl rfl rfl rfl (pqC)) ?_
  rintro _ _ ⟨_, ⟨rfl, rfl, g1⟩, rfl⟩
  have g1 : PoIs _ kz1 m0 := g1
  refine WL_val rfl rfl rfl (R_not rfl rfl) ?_
  refine WL_val rfl rfl rfl (R_pickF rfl rfl rfl) ?_
  refine WL_val rfl rfl rfl (R_move rfl rfl) ?_
  refine WL_val rfl rfl rfl (R_move rfl rfl) ?_
  refine WL_do rfl rfl rfl (D_call (po_start m0 g1 (by omega) 0) rfl rfl rfl rfl (pqC)) ?_
  rintro _ _ ⟨_, ⟨m2, rfl, rfl, p2, g2⟩, rfl⟩
  have g2 : PoIs _ kz2 m2 := g2
  rw [← p2]
  refine WL_val rfl rfl rfl (R_neq rfl rfl rfl) ?_
  refine WL_set (s := 31) (v := .bool false) rfl (by exact congrArg Value.bool (decide_eq_false (fun h => h kf1))) ?_
  refine WL_val rfl rfl rfl (R_pickF rfl rfl rfl) ?_
  refine WL_val rfl rfl rfl (R_move rfl rfl) ?_
  refine WL_val rfl rfl rfl (R_move rfl rfl) ?_
  refine WL_do rfl rfl rfl (D_call (po_start m2 g2 (by omega) 1) rfl rfl rfl rfl (pqC)) ?_
  rintro _ _ ⟨_, ⟨m3, rfl, rfl, p3, g3⟩, rfl⟩
  have g3 : PoIs _ kz3 m3 := g3
  rw [← p3]
  refine WL_val rfl rfl rfl (R_neq rfl rfl rfl) ?_
  refine WL_set (s := 36) (v := .bool false) rfl (by exact congrArg Value.bool (decide_eq_false (fun h => h kf2))) ?_
  refine WL_val rfl rfl rfl (R_pickF rfl rfl rfl) ?_
  refine WL_val rfl rfl rfl (R_move rfl rfl) ?_
  refine WL_val rfl rfl rfl (R_move rfl rfl) ?_
  refine WL_do rfl rfl rfl (D_call (po_start m3 g3 (by omega) 2) rfl rfl rfl rfl (pqC)) ?_
  rintro _ _ ⟨_, ⟨m4, rfl, rfl, p4, g4⟩, rfl⟩
  have g4 : PoIs _ kz4 m4 := g4
  rw [← p4]
  refine WL_val rfl rfl rfl (R_neq rfl rfl rfl) ?_
  refine WL_set (s := 41) (v := .bool false) rfl (by exact congrArg Value.bool (decide_eq_false (fun h => h kf3))) ?_
  refine WL_val rfl rfl rfl (R_pickF rfl rfl rfl) ?_
  refine WL_nil ?_
  refine WQ_code ?_
  refine WC_F rfl ?_
  refine WC_skip ?_
  refine WQ_code ?_
  refine WC_seq ?_
  refine WC_seq ?_
  refine WC_region ?_
  refine WL_val rfl rfl rfl (R_move rfl rfl) ?_
  refine WL_val rfl rfl rfl (R_loadA (vs := [_, _]) rfl ag30 rfl (mmC) rfl (atZ)) ?_
  refine WL_do rfl rfl rfl (D_call (po_wait m4 g4 (by omega) 0 0 0 0) rfl rfl rfl rfl (pqC)) ?_
  rintro _ _ ⟨_, ⟨m5, rfl, rfl, p5, g5⟩, rfl⟩
  have g5 : PoIs _ kz5 m5 := g5
  rw [← p5]
  refine WL_val rfl rfl rfl (R_neq rfl rfl rfl) ?_
  refine WL_set (s := 46) (v := .bool false) rfl (by exact congrArg Value.bool (decide_eq_false (fun h => h kf4))) ?_
  refine WL_val rfl rfl rfl (R_move rfl rfl) ?_
  refine WL_val rfl rfl rfl (R_move rfl rfl) ?_
  refine WL_val rfl rfl rfl (R_loadA (vs := [_, _]) rfl ag30 rfl (mmC) rfl (atZ)) ?_
  refine WL_do rfl rfl rfl (D_call (po_wait m5 g5 (by omega) 1 0 0 1) rfl rfl rfl rfl (pqC)) ?_
  rintro _ _ ⟨_, ⟨m6, rfl, rfl, p6, g6⟩, rfl⟩
  have g6 : PoIs _ kz6 m6 := g6
  rw [← p6]
  refine WL_val rfl rfl rfl (R_neq rfl rfl rfl) ?_
  refine WL_set (s := 51) (v := .bool false) rfl (by exact congrArg Value.bool (decide_eq_false (fun h => h kf5))) ?_
  refine WL_val rfl rfl rfl (R_pickF rfl rfl rfl) ?_
  refine WL_val rfl rfl rfl (R_move rfl rfl) ?_
  refine WL_val rfl rfl rfl (R_move rfl rfl) ?_
  refine WL_val rfl rfl rfl (R_loadA (vs := [_, _]) rfl ag30 rfl (mmC) rfl (atZ)) ?_
  refine WL_do rfl rfl rfl (D_call (po_wait m6 g6 (by omega) 2 0 0 0) rfl rfl rfl rfl (pqC)) ?_
  rintro _ _ ⟨_, ⟨m7, rfl, rfl, p7, g7⟩, rfl⟩
  have g7 : PoIs _ kz7 m7 := g7
  rw [← p7]
  refine WL_val rfl rfl rfl (R_neq rfl rfl rfl) ?_
  refine WL_set (s := 57) (v := .bool false) rfl (by exact congrArg Value.bool (decide_eq_false (fun h => h kf6))) ?_
  refine WL_val rfl rfl rfl (R_pickF rfl rfl rfl) ?_
  refine WL_nil ?_
  refine WQ_code ?_
  refine WC_F rfl ?_
  refine WC_skip ?_
  refine WQ_code ?_
  refine WC_seq ?_
  refine WC_region ?_
  refine WL_val rfl rfl rfl (R_move rfl rfl) ?_
  refine WL_val rfl rfl rfl (R_loadA (vs := [_, _]) rfl ag30 rfl (mmC) rfl (atZ)) ?_
  refine WL_do rfl rfl rfl (D_call (dead_run m7 g7 (by omega) 0 0 0 15 (by decide) [] kf7.1 kf7.2.1) rfl rfl rfl rfl (pqC)) ?_
  rintro _ _ ⟨_, ⟨m8, o8, c8, t8, rfl, w8, rfl, p8, g8⟩, rfl⟩
  have g8 : PoIs _ kz8 m8 := g8
  rw [← p8]
  refine WL_val rfl rfl rfl (R_move rfl rfl) ?_
  refine WL_val rfl rfl rfl (R_extract rfl rfl rfl) ?_
  refine WL_val rfl rfl rfl (R_extract rfl rfl rfl) ?_
  refine WL_val rfl rfl rfl (R_assign rfl rfl) ?_
  refine WL_val rfl rfl rfl (R_assign rfl rfl) ?_
  refine WL_nil ?_
  refine WQ_code ?_
  refine WC_seq ?_
  refine WC_region ?_
  refine WL_val rfl rfl rfl (R_move rfl rfl) ?_
  refine WL_do rfl rfl rfl (D_call (adv_run m8 g8 (by omega) 14 (by decide) [] kl8 kf8.2.2.2.1 [] rfl) rfl rfl rfl rfl (pqC)) ?_
  rintro _ _ ⟨_, ⟨m9, o9, c9, t9, rfl, w9, rfl, p9, g9⟩, rfl⟩
  have g9 : PoIs _ kz9 m9 := g9
  rw [← p9]
  refine WL_val rfl rfl rfl (R_move rfl rfl) ?_
  refine WL_val rfl rfl rfl (R_extract rfl rfl rfl) ?_
  refine WL_val rfl rfl rfl (R_extract rfl rfl rfl) ?_
  refine WL_val rfl rfl rfl (R_assign rfl rfl) ?_
  refine WL_val rfl rfl rfl (R_assign rfl rfl) ?_
  refine WL_nil ?_
  refine WQ_code ?_
  refine WC_seq ?_
  refine WC_region ?_
  refine WL_val rfl rfl rfl (R_move rfl rfl) ?_
  refine WL_val rfl rfl rfl (R_loadA (vs := [_, _]) rfl ag30 rfl (mmC) rfl (atZ)) ?_
  refine WL_do rfl rfl rfl (D_call (po_sig m9 g9 (by omega) 0 0 0) rfl rfl rfl rfl (pqC)) ?_
  rintro _ _ ⟨_, ⟨m10, rfl, rfl, p10, g10⟩, rfl⟩
  have g10 : PoIs _ kz10 m10 := g10
  rw [← p10]
  have hs9 : kz9.sigR 0 0 0 = (0, 0) := kf9.1
  rw [show PoS.sigR _ 0 0 0 = (0, 0) from hs9]
  refine WL_val rfl rfl rfl (R_move rfl rfl) ?_
  refine WL_val rfl rfl rfl (R_extract rfl rfl rfl) ?_
  refine WL_val rfl rfl rfl (R_extract rfl rfl rfl) ?_
  refine WL_val rfl rfl rfl (R_assign rfl rfl) ?_
  refine WL_val rfl rfl rfl (R_assign rfl rfl) ?_
  refine WL_nil ?_
  refine WQ_code ?_
  refine WC_seq ?_
  refine WC_seq ?_
  refine WC_region ?_
  refine WL_val rfl rfl rfl (R_move rfl rfl) ?_
  refine WL_val rfl rfl rfl (R_move rfl rfl) ?_
  refine WL_noneC 3 ?_
  refine WL_do rfl rfl rfl (D_call (woke_none o8 c8 t8 w8) rfl rfl rfl rfl (pqC)) ?_
  rintro _ _ ⟨_, ⟨rfl, rfl⟩, rfl⟩
  refine WL_val rfl rfl rfl (R_not rfl rfl) ?_
  refine WL_val rfl rfl rfl (R_move rfl rfl) ?_
  refine WL_val rfl rfl rfl (R_move rfl rfl) ?_
  refine WL_val rfl rfl rfl (R_move rfl rfl) ?_
  refine WL_do rfl rfl rfl (D_call (woke_none o9 c9 t9 w9) rfl rfl rfl rfl (pqC)) ?_
  rintro _ _ ⟨_, ⟨rfl, rfl⟩, rfl⟩
  refine WL_val rfl rfl rfl (R_not rfl rfl) ?_
  refine WL_val rfl rfl rfl (R_pickF rfl rfl rfl) ?_
  refine WL_val rfl rfl rfl (R_move rfl rfl) ?_
  refine WL_val rfl rfl rfl (R_move rfl rfl) ?_
  refine WL_val rfl rfl rfl (R_neq rfl rfl rfl) ?_
  refine WL_set (s := 88) (v := .bool false) rfl (by simp) ?_
  refine WL_val rfl rfl rfl (R_pickF rfl rfl rfl) ?_
  refine WL_val rfl rfl rfl (R_move rfl rfl) ?_
  refine WL_val rfl rfl rfl (R_move rfl rfl) ?_
  refine WL_val rfl rfl rfl (R_neq rfl rfl rfl) ?_
  refine WL_set (s := 92) (v := .bool false) rfl (by simp) ?_
  refine WL_val rfl rfl rfl (R_pickF rfl rfl rfl) ?_
  refine WL_val rfl rfl rfl (R_move rfl rfl) ?_
  refine WL_val rfl rfl rfl (R_move rfl rfl) ?_
  refine WL_do rfl rfl rfl (D_call (reason_ok m10 g10 (by omega) 0 1 kf9.2) rfl rfl rfl rfl (pqC)) ?_
  rintro _ _ ⟨_, ⟨rfl, rfl⟩, rfl⟩
  refine WL_val rfl rfl rfl (R_not rfl rfl) ?_
  refine WL_val rfl rfl rfl (R_pickF rfl rfl rfl) ?_
  refine WL_nil ?_
  refine WQ_code ?_
  refine WC_F rfl ?_
  refine WC_skip ?_
  refine WQ_code ?_
  refine WC_seq ?_
  refine WC_region ?_
  refine WL_val rfl rfl rfl (R_move rfl rfl) ?_
  refine WL_do rfl rfl rfl (D_call (adv_run m10 g10 (by omega) 15 (by decide) [⟨0, 0, 15⟩] kl10 kf8.2.2.2.2 [2] kf10.1) rfl rfl rfl rfl (pqC)) ?_
  rintro _ _ ⟨_, ⟨m11, o11, c11, t11, rfl, w11, rfl, p11, g11⟩, rfl⟩
  have g11 : PoIs _ kz11 m11 := g11
  rw [← p11]
  refine WL_val rfl rfl rfl (R_move rfl rfl) ?_
  refine WL_val rfl rfl rfl (R_extract rfl rfl rfl) ?_
  refine WL_val rfl rfl rfl (R_extract rfl rfl rfl) ?_
  refine WL_val rfl rfl rfl (R_assign rfl rfl) ?_
  refine WL_val rfl rfl rfl (R_assign rfl rfl) ?_
  refine WL_nil ?_
  refine WQ_code ?_
  refine WC_seq ?_
  refine WC_seq ?_
  refine WC_region ?_
  refine WL_val rfl rfl rfl (R_move rfl rfl) ?_
  refine WL_val rfl rfl rfl (R_move rfl rfl) ?_
  refine WL_do rfl rfl rfl (D_buildSlice rfl si34 rfl rfl rfl) ?_
  rintro _ _ ⟨b2, rfl, rfl⟩
  refine WL_do rfl rfl rfl (D_call (woke_ok [2] (by decide) o11 c11 t11 (some b2) 1 [] w11 ⟨rfl, rfl, by decide, by decide, fun e => by cases e⟩) rfl rfl rfl rfl (pqC)) ?_
  rintro _ _ ⟨_, ⟨rfl, rfl⟩, rfl⟩
  refine WL_val rfl rfl rfl (R_not rfl rfl) ?_
  refine WL_val rfl rfl rfl (R_move rfl rfl) ?_
  refine WL_val rfl rfl rfl (R_move rfl rfl) ?_
  refine WL_do rfl rfl rfl (D_call (reason_ok m11 g11 (by omega) 2 2 kf10.2.1) rfl rfl rfl rfl (pqC)) ?_
  rintro _ _ ⟨_, ⟨rfl, rfl⟩, rfl⟩
  refine WL_val rfl rfl rfl (R_not rfl rfl) ?_
  refine WL_val rfl rfl rfl (R_pickF rfl rfl rfl) ?_
  refine WL_val rfl rfl rfl (R_move rfl rfl) ?_
  refine WL_val rfl rfl rfl (R_move rfl rfl) ?_
  refine WL_val rfl rfl rfl (R_loadA (vs := [_, _]) rfl ag30 rfl (mmC) rfl (atZ)) ?_
  refine WL_do rfl rfl rfl (D_call (po_chk m11 g11 (by omega) 0 0 0) rfl rfl rfl rfl (pqC)) ?_
  rintro _ _ ⟨_, ⟨rfl, rfl⟩, rfl⟩
  refine WL_val rfl rfl rfl (R_neq rfl rfl rfl) ?_
  refine WL_set (s := 118) (v := .bool false) rfl (by exact congrArg Value.bool (decide_eq_false (fun h => h kf10.2.2))) ?_
  refine WL_val rfl rfl rfl (R_pickF rfl rfl rfl) ?_
  refine WL_nil ?_
  refine WQ_code ?_
  refine WC_F rfl ?_
  refine WC_skip ?_
  refine WQ_code ?_
  refine WC_seq ?_
  refine WC_region ?_
  refine WL_val rfl rfl rfl (R_move rfl rfl) ?_
  refine WL_val rfl rfl rfl (R_loadA (vs := [_, _]) rfl ag30 rfl (mmC) rfl (atZ)) ?_
  refine WL_do rfl rfl rfl (D_call (close_run m11 g11 (by omega) 0 0 [1] kf11.1 kf11.2) rfl rfl rfl rfl (pqC)) ?_
  rintro _ _ ⟨_, ⟨m12, o12, c12, t12, rfl, w12, rfl, p12, g12⟩, rfl⟩
  have g12 : PoIs _ kz12 m12 := g12
  rw [← p12]
  refine WL_val rfl rfl rfl (R_move rfl rfl) ?_
  refine WL_val rfl rfl rfl (R_extract rfl rfl rfl) ?_
  refine WL_val rfl rfl rfl (R_extract rfl rfl rfl) ?_
  refine WL_val rfl rfl rfl (R_assign rfl rfl) ?_
  refine WL_val rfl rfl rfl (R_assign rfl rfl) ?_
  refine WL_nil ?_
  refine WQ_code ?_
  refine WC_seq ?_
  refine WC_seq ?_
  refine WC_region ?_
  refine WL_val rfl rfl rfl (R_move rfl rfl) ?_
  refine WL_val rfl rfl rfl (R_move rfl rfl) ?_
  refine WL_do rfl rfl rfl (D_buildSlice rfl si34 rfl rfl rfl) ?_
  rintro _ _ ⟨b3, rfl, rfl⟩
  refine WL_do rfl rfl rfl (D_call (woke_ok [1] (by decide) o12 c12 t12 (some b3) 1 [] w12 ⟨rfl, rfl, by decide, by decide, fun e => by cases e⟩) rfl rfl rfl rfl (pqC)) ?_
  rintro _ _ ⟨_, ⟨rfl, rfl⟩, rfl⟩
  refine WL_val rfl rfl rfl (R_not rfl rfl) ?_
  refine WL_val rfl rfl rfl (R_move rfl rfl) ?_
  refine WL_val rfl rfl rfl (R_move rfl rfl) ?_
  refine WL_do rfl rfl rfl (D_call (reason_ok m12 g12 (by omega) 1 3 kf12.1) rfl rfl rfl rfl (pqC)) ?_
  rintro _ _ ⟨_, ⟨rfl, rfl⟩, rfl⟩
  refine WL_val rfl rfl rfl (R_not rfl rfl) ?_
  refine WL_val rfl rfl rfl (R_pickF rfl rfl rfl) ?_
  refine WL_val rfl rfl rfl (R_move rfl rfl) ?_
  refine WL_val rfl rfl rfl (R_move rfl rfl) ?_
  refine WL_val rfl rfl rfl (R_loadA (vs := [_, _]) rfl ag30 rfl (mmC) rfl (atZ)) ?_
  refine WL_do rfl rfl rfl (D_call (po_chk m12 g12 (by omega) 0 0 0) rfl rfl rfl rfl (pqC)) ?_
  rintro _ _ ⟨_, ⟨rfl, rfl⟩, rfl⟩
  refine WL_val rfl rfl rfl (R_neq rfl rfl rfl) ?_
  refine WL_set (s := 140) (v := .bool false) rfl (by exact congrArg Value.bool (decide_eq_false (fun h => h kf12.2.1))) ?_
  refine WL_val rfl rfl rfl (R_pickF rfl rfl rfl) ?_
  refine WL_val rfl rfl rfl (R_move rfl rfl) ?_
  refine WL_val rfl rfl rfl (R_move rfl rfl) ?_
  refine WL_do rfl rfl rfl (D_call (lfd_ok _ _) rfl rfl rfl rfl (pqC)) ?_
  rintro _ _ ⟨_, ⟨rfl, rfl⟩, rfl⟩
  refine WL_do rfl rfl rfl (D_call (opens_ok m12 g12 (by omega) 8 0 1 kf12.2.2) rfl rfl rfl rfl (pqC)) ?_
  rintro _ _ ⟨_, ⟨rfl, rfl, g13⟩, rfl⟩
  have g13 : PoIs _ kz13 m12 := g13
  refine WL_val rfl rfl rfl (R_not rfl rfl) ?_
  refine WL_val rfl rfl rfl (R_pickF rfl rfl rfl) ?_
  refine WL_val rfl rfl rfl (R_move rfl rfl) ?_
  refine WL_val rfl rfl rfl (R_move rfl rfl) ?_
  refine WL_do rfl rfl rfl (D_call (lfd_ok _ _) rfl rfl rfl rfl (pqC)) ?_
  rintro _ _ ⟨_, ⟨rfl, rfl⟩, rfl⟩
  refine WL_do rfl rfl rfl (D_call (po_chk m12 g13 (by omega) 0 1 0) rfl rfl rfl rfl (pqC)) ?_
  rintro _ _ ⟨_, ⟨rfl, rfl⟩, rfl⟩
  refine WL_val rfl rfl rfl (R_neq rfl rfl rfl) ?_
  refine WL_set (s := 152) (v := .bool false) rfl (by exact congrArg Value.bool (decide_eq_false (fun h => h kf13.1))) ?_
  refine WL_val rfl rfl rfl (R_pickF rfl rfl rfl) ?_
  refine WL_nil ?_
  refine WQ_code ?_
  refine WC_F rfl ?_
  refine WC_skip ?_
  refine WQ_code ?_
  refine WC_seq ?_
  refine WC_region ?_
  refine WL_val rfl rfl rfl (R_move rfl rfl) ?_
  refine WL_do rfl rfl rfl (D_call (po_where m12 g13 (by omega) 1) rfl rfl rfl rfl (pqC)) ?_
  rintro _ _ ⟨_, ⟨rfl, rfl⟩, rfl⟩
  refine WL_val rfl rfl rfl (R_move rfl rfl) ?_
  refine WL_val rfl rfl rfl (R_extract rfl rfl rfl) ?_
  refine WL_val rfl rfl rfl (R_extract rfl rfl rfl) ?_
  refine WL_val rfl rfl rfl (R_extract rfl rfl rfl) ?_
  refine WL_val rfl rfl rfl (R_assign rfl rfl) ?_
  refine WL_nil ?_
  refine WQ_code ?_
  refine WC_seq ?_
  refine WC_region ?_
  refine WL_val rfl rfl rfl (R_move rfl rfl) ?_
  refine WL_val rfl rfl rfl (R_eql rfl rfl rfl) ?_
  refine WL_set (s := 161) (v := .bool true) rfl (by exact congrArg Value.bool (decide_eq_true kf13.2)) ?_
  refine WL_val rfl rfl rfl (R_assign rfl rfl) ?_
  refine WL_nil ?_
  refine WQ_code ?_
  refine WC_ret ?_
  refine WQ_ret rfl rfl (.cons (.tmp rfl) .nil) rfl (by
      exact ⟨rfl, rfl⟩) (pqC)
end Go.Proofs.YtbkdebnkoidicaaGreat
end
section
set_option linter.unusedVariables false
set_option maxRecDepth 20000
namespace Go.Proofs.YtbkdebnkoidicaaGreat
/-! ### Who is woken -/
theorem outs_ok : ∀ (l : List Int) (s : PS), PsOk s → l.Nodup → (∀ v ∈ l, ∃ w ∈ s.W, (w.i : Int) = v) → PsOk (l.foldl PS.out s) ∧ (∀ i : Nat, (l.foldl PS.out s).sm[i]? = if (i : Int) ∈ l then some 1 else s.sm[i]?) ∧ (∀ w, w ∈ (l.foldl PS.out s).W ↔ w ∈ s.W ∧ (w.i : Int) ∉ l) ∧ (l.foldl PS.out s).sm.length = s.sm.length
  | [], s, h, _, _ => ⟨h, fun i => by rw [if_neg (by simp)]; rfl, fun w => by simp, rfl⟩
  | v :: l, s, h, hn, hv => by
    obtain ⟨hn1, hn2⟩ := List.nodup_cons.1 hn
    obtain ⟨w, hw, rfl⟩ := hv v (List.mem_cons_self ..)
    have hi := (h.prk w.i).2 ⟨w, hw, rfl⟩
    have e1 : (s.out (w.i : Int)).sm = s.sm.set w.i 1 := by unfold PS.out; rw [stepR_ok hi]
    have e2 : (s.out (w.i : Int)).W = wOut s.W w.i := rfl
    obtain ⟨q1, q2, q3, q4⟩ := outs_ok l (s.out (w.i : Int)) (h.out_ hw) hn2 fun u hu => by
      obtain ⟨x, hx, rfl⟩ := hv u (List.mem_cons_of_mem _ hu)
      exact ⟨x, by rw [e2]; exact wOut_mem.2 ⟨hx, fun e => hn1 (by rw [← e]; exact hu)⟩, rfl⟩
    rw [List.foldl_cons]
    refine ⟨q1, fun i => ?_, fun x => ?_, ?_⟩
    · rw [q2 i, e1, List.getElem?_set]
      by_cases c : (i : Int) ∈ l
      · rw [if_pos c, if_pos (List.mem_cons_of_mem _ c)]
      · rw [if_neg c]
        by_cases d : w.i = i
        · subst d
          rw [if_pos rfl, if_pos (List.getElem?_eq_some_iff.1 hi).1, if_pos (List.mem_cons_self ..)]
        · rw [if_neg d, if_neg]
          intro m
          rcases List.mem_cons.1 m with m | m
          · omega
          · exact c m
    · rw [q3 x, e2, wOut_mem, List.mem_cons, not_or, and_assoc]
    · rw [q4, e1, List.length_set]
theorem markR_at (why : Int) : ∀ (l R : List Int), (∀ v ∈ l, ∃ j : Nat, v = (j : Int) ∧ j < R.length) → ∀ i : Nat, (markR R l why)[i]? = if (i : Int) ∈ l then some why else R[i]?
  | [], R, _, i => by rw [if_neg (by simp)]; rfl
  | v :: l, R, hv, i => by
    obtain ⟨j, rfl, hj⟩ := hv v (List.mem_cons_self ..)
    have e : markR R ((j : Int) :: l) why = markR (R.set j why) l why := by unfold markR; rw [List.foldl_cons, Int.toNat_natCast]
    rw [e, markR_at why l (R.set j why) (fun u hu => by rw [List.length_set]; exact hv u (List.mem_cons_of_mem _ hu)) i, List.getElem?_set]
    by_cases c : (i : Int) ∈ l
    · rw [if_pos c, if_pos (List.mem_cons_of_mem _ c)]
    · rw [if_neg c]
      by_cases d : j = i
      · subst d; rw [if_pos rfl, if_pos hj, if_pos (List.mem_cons_self ..)]
      · rw [if_neg d, if_neg]
        intro m
        rcases List.mem_cons.1 m with m | m
        · omega
        · exact c m
/-- What a call has woken. -/
structure Wake (z z' : PoS) (L : List Int) (why : Int) : Prop where
  ps : PsOk z'.s
  len : z'.s.sm.length = z.s.sm.length
  rl : z'.R.length = z.R.length
  w : ∀ x, x ∈ z'.s.W ↔ x ∈ z.s.W ∧ (x.i : Int) ∉ L
  par : ∀ v ∈ L, ∃ x ∈ z.s.W, (x.i : Int) = v
  st : ∀ i : Nat, (i : Int) ∈ L → z'.s.sm[i]? = some 1 ∧ z'.R[i]? = some why
  keep : ∀ i : Nat, (i : Int) ∉ L → z'.s.sm[i]? = z.s.sm[i]? ∧ z'.R[i]? = z.R[i]?
theorem Wake.nil {z : PoS} (h : PsOk z.s) (why : Int) : Wake z z [] why := ⟨h, rfl, rfl, fun x => by simp, (fun v hv => absurd hv (List.not_mem_nil)), (fun i hi => absurd hi (List.not_mem_nil)), fun i _ => ⟨rfl, rfl⟩⟩
theorem Wake.trans {z z1 z2 : PoS} {L1 L2 : List Int} {why : Int} (a : Wake z z1 L1 why) (b : Wake z1 z2 L2 why) : Wake z z2 (L1 ++ L2) why := by
  refine ⟨b.ps, b.len.trans a.len, b.rl.trans a.rl, fun x => ?_, fun v hv => ?_, fun i hi => ?_, fun i hi => ?_⟩
  · rw [b.w, a.w, List.mem_append, not_or, and_assoc]
  · rcases List.mem_append.1 hv with hv | hv
    · exact a.par v hv
    · obtain ⟨x, hx, e⟩ := b.par v hv
      exact ⟨x, ((a.w x).1 hx).1, e⟩
  · by_cases c : (i : Int) ∈ L2
    · exact b.st i c
    · rw [(b.keep i c).1, (b.keep i c).2]
      exact a.st i ((List.mem_append.1 hi).resolve_right c)
  · rw [List.mem_append, not_or] at hi
    rw [(b.keep i hi.2).1, (b.keep i hi.2).2]
    exact a.keep i hi.1
theorem waiting_mem {s : PS} {a : Sp} {v : Int} : v ∈ s.waiting a ↔ vldS a ∧ ∃ w ∈ s.W, w.at_ = a ∧ (w.i : Int) = v := by
  unfold PS.waiting
  split
  · rename_i h; rw [wAt_mem]; exact ⟨fun q => ⟨h, q⟩, fun q => q.2⟩
  · rename_i h; exact ⟨(fun q => absurd q (List.not_mem_nil)), (fun q => absurd q.1 h)⟩
theorem waiting_nodup {s : PS} (h : PsOk s) (a : Sp) : (s.waiting a).Nodup := by
  unfold PS.waiting
  split
  · exact wAt_nodup h.nd a
  · exact .nil
theorem wk_out {s : PS} (h : PsOk s) {x : Wt} (hx : x ∈ s.W) : x.i < s.sm.length := (List.getElem?_eq_some_iff.1 ((h.prk x.i).2 ⟨x, hx, rfl⟩)).1
theorem Wake.list {z : PoS} (h : PsOk z.s) (hr : z.R.length = z.s.sm.length) {l : List Int} (hn : l.Nodup) (hp : ∀ v ∈ l, ∃ x ∈ z.s.W, (x.i : Int) = v) (why : Int) : Wake z { z with s := l.foldl PS.out z.s, R := markR z.R l why } l why := by
  obtain ⟨q1, q2, q3, q4⟩ := outs_ok l z.s h hn hp
  have hm := markR_at why l z.R fun v hv => by
    obtain ⟨x, hx, rfl⟩ := hp v hv
    exact ⟨x.i, rfl, by rw [hr]; exact wk_out h hx⟩
  refine ⟨q1, q4, markR_len _ _ _, q3, hp, fun i hi => ⟨?_, ?_⟩, fun i hi => ⟨?_, ?_⟩⟩
  · (show (l.foldl PS.out z.s).sm[i]? = _); rw [q2, if_pos hi]
  · (show (markR z.R l why)[i]? = _); rw [hm, if_pos hi]
  · (show (l.foldl PS.out z.s).sm[i]? = _); rw [q2, if_neg hi]
  · (show (markR z.R l why)[i]? = _); rw [hm, if_neg hi]
theorem Wake.all {z : PoS} (h : PsOk z.s) (hr : z.R.length = z.s.sm.length) (a : Sp) (why : Int) : Wake z (z.all a why) (z.s.waiting a) why :=
  Wake.list h hr (waiting_nodup h a) (fun v hv => by obtain ⟨_, x, hx, _, e⟩ := waiting_mem.1 hv; exact ⟨x, hx, e⟩) why
end Go.Proofs.YtbkdebnkoidicaaGreat
end
section
set_option linter.unusedVariables false
set_option maxRecDepth 20000
namespace Go.Proofs.YtbkdebnkoidicaaGreat
/-! ### What a call leaves, and what is looked at after it -/
def OpN (T : List Slt.Pl) (n : Int) : Prop := ∃ (i : Nat) (x : Slt.Pl), n = (i : Int) ∧ T[i]? = some x ∧ x.opn = true
structure HInv (z : PoS) : Prop where
  ps : PsOk z.s
  rl : z.R.length = z.s.sm.length
  nw : z.now < 18446744073709551615
  opn : ∀ w ∈ z.s.W, OpN z.T w.at_.1 ∧ z.now < z.f (plS w.at_)
  cls : ∀ i : Nat, ¬ OpN z.T (i : Int) → z.f (2 * i) = 18446744073709551615 ∧ z.f (2 * i + 1) = 18446744073709551615
structure HPost (z z' : PoS) (L : List Int) (why n g : Int) : Prop where
  inv : HInv z'
  len : z'.s.sm.length = z.s.sm.length
  par : ∀ i : Nat, (i : Int) ∈ L ↔ (∃ w ∈ z.s.W, w.i = i) ∧ z'.s.sm[i]? ≠ some 2
  st : ∀ i : Nat, (i : Int) ∈ L → z'.s.sm[i]? = some 1 ∧ z'.R[i]? = some why
  tm : why = 2 → z'.T = z.T ∧ ∀ w ∈ z.s.W, (w.i : Int) ∈ L → z'.f (plS w.at_) ≤ z'.now
  cl : why = 3 → ∀ w ∈ z.s.W, (w.i : Int) ∈ L → (atT z.T w.at_.1).1 = (n, g) ∧ (getT z'.T n g).2 = 9
theorem none_par {z z' : PoS} (h : PsOk z'.s) (hw : ∀ w ∈ z.s.W, ∃ u ∈ z'.s.W, u.i = w.i) (i : Nat) : (i : Int) ∈ ([] : List Int) ↔ (∃ w ∈ z.s.W, w.i = i) ∧ z'.s.sm[i]? ≠ some 2 := by
  constructor
  · intro m; cases m
  · rintro ⟨⟨w, hw1, rfl⟩, h2⟩
    exact absurd ((h.prk w.i).2 (hw w hw1)) h2
theorem HPost.same {z : PoS} (h : HInv z) (why n g : Int) : HPost z z [] why n g := ⟨h, rfl, none_par h.ps fun w hw => ⟨w, hw, rfl⟩, (fun i m => by cases m), (fun _ => ⟨rfl, (fun w _ m => by cases m)⟩), (fun _ w _ m => by cases m)⟩
theorem HPost.quiet {z z' : PoS} (h : HInv z') (hl : z'.s.sm.length = z.s.sm.length) (hw : ∀ w ∈ z.s.W, ∃ u ∈ z'.s.W, u.i = w.i) (n g : Int) : HPost z z' [] 0 n g := ⟨h, hl, none_par h.ps hw, (fun i m => by cases m), (fun e => by cases e), (fun e => by cases e)⟩
end Go.Proofs.YtbkdebnkoidicaaGreat
end
section
set_option linter.unusedVariables false
set_option maxRecDepth 20000
namespace Go.Proofs.YtbkdebnkoidicaaGreat
/-! ### All that wait, woken spot after spot -/
/-- Who is ready is known by the states. -/
def PsQ (s : PS) : Prop := ∀ v ∈ s.qm, ∃ i : Nat, v = (i : Int) ∧ s.sm[i]? = some 1
theorem PkIs.rdy {N : Nat} {s : PS} {l : PkM} (h : PkIs N s l) : PsQ s := fun v hv => by
  rw [← h.tk.qm] at hv
  obtain ⟨⟨t, u⟩, hx, rfl⟩ := List.mem_map.1 hv
  obtain ⟨i, hi, hS⟩ := h.tk.tk.back t u hx
  exact ⟨i, hi, by rw [← h.tk.sm, List.getElem?_map, hS]; rfl⟩
theorem out_qm {s : PS} (h : PsOk s) (hq : PsQ s) {z : Wt} (hz : z ∈ s.W) : (s.out z.i).qm = s.qm ++ [(z.i : Int)] ∧ PsQ (s.out z.i) := by
  have hi := (h.prk z.i).2 ⟨z, hz, rfl⟩
  have hf : s.qm.filter (fun v => decide (v ≠ (z.i : Int))) = s.qm := List.filter_eq_self.2 fun v hv => decide_eq_true fun e => by
    obtain ⟨i, e1, e2⟩ := hq v hv
    rw [show i = z.i from by omega, hi] at e2
    cases e2
  have e : (s.out z.i).qm = s.qm ++ [(z.i : Int)] := by
    unfold PS.out
    rw [stepR_ok hi]
    show s.qm.filter _ ++ [(z.i : Int)] = _
    rw [hf]
  refine ⟨e, fun v hv => ?_⟩
  have e2 : (s.out z.i).sm = s.sm.set z.i 1 := by unfold PS.out; rw [stepR_ok hi]
  rw [e, List.mem_append, List.mem_singleton] at hv
  rw [e2]
  rcases hv with hv | rfl
  · obtain ⟨i, e3, e4⟩ := hq v hv
    refine ⟨i, e3, ?_⟩
    by_cases q : z.i = i
    · subst q; rw [hi] at e4; cases e4
    · rw [List.getElem?_set, if_neg q]; exact e4
  · exact ⟨z.i, rfl, by rw [List.getElem?_set, if_pos rfl, if_pos (List.getElem?_eq_some_iff.1 hi).1]⟩
theorem outs_qm : ∀ (l : List Int) (s : PS), PsOk s → PsQ s → l.Nodup → (∀ v ∈ l, ∃ w ∈ s.W, (w.i : Int) = v) → (l.foldl PS.out s).qm = s.qm ++ l
  | [], s, _, _, _, _ => (List.append_nil _).symm
  | v :: l, s, h, hq, hn, hv => by
    obtain ⟨hn1, hn2⟩ := List.nodup_cons.1 hn
    obtain ⟨w, hw, rfl⟩ := hv v (List.mem_cons_self ..)
    obtain ⟨q1, q2⟩ := out_qm h hq hw
    rw [List.foldl_cons, outs_qm l (s.out (w.i : Int)) (h.out_ hw) q2 hn2 fun u hu => by
      obtain ⟨x, hx, rfl⟩ := hv u (List.mem_cons_of_mem _ hu)
      exact ⟨x, wOut_mem.2 ⟨hx, fun e => hn1 (by rw [← e]; exact hu)⟩, rfl⟩, q1, List.append_assoc]; rfl
theorem outs_W : ∀ (l : List Int) (s : PS), (l.foldl PS.out s).W = s.W.filter (fun w => decide ((w.i : Int) ∉ l))
  | [], s => (List.filter_eq_self.2 (fun w _ => by simp)).symm
  | v :: l, s => by
    rw [List.foldl_cons, outs_W l]
    show (wOut s.W v).filter _ = _
    unfold wOut
    rw [List.filter_filter]
    refine List.filter_congr fun w _ => ?_
    rw [Bool.eq_iff_iff]
    simp only [Bool.and_eq_true, decide_eq_true_eq, List.mem_cons, not_or]
    exact and_comm
theorem waits_other {s : PS} (h : PsOk s) {a b : Sp} (hab : a ≠ b) : (s.wakeAll a).waiting b = s.waiting b := by
  unfold PS.waiting
  split
  · unfold PS.wakeAll
    rw [outs_W]
    unfold wAt
    rw [List.filter_filter]
    congr 1
    refine List.filter_congr fun w hw => ?_
    rw [Bool.eq_iff_iff]
    simp only [Bool.and_eq_true, decide_eq_true_eq]
    refine ⟨fun q => q.1, fun q => ⟨q, fun m => ?_⟩⟩
    obtain ⟨_, y, hy, hya, e⟩ := waiting_mem.1 m
    have : y = w := wt_one h.nd hy hw (by omega)
    subst this
    exact hab (hya.symm.trans q)
  · rfl
theorem wakeAll_ps {s : PS} (h : PsOk s) (a : Sp) : PsOk (s.wakeAll a) := (outs_ok _ s h (waiting_nodup h a) (fun v hv => by obtain ⟨_, x, hx, _, e⟩ := waiting_mem.1 hv; exact ⟨x, hx, e⟩)).1
/-- Four spots. -/
theorem four {s : PS} (h : PsOk s) {a b c d : Sp} (h1 : a ≠ b) (h2 : a ≠ c) (h3 : a ≠ d) (h4 : b ≠ c) (h5 : b ≠ d) (h6 : c ≠ d) :
    (s.wakeAll a).waiting b = s.waiting b ∧ ((s.wakeAll a).wakeAll b).waiting c = s.waiting c ∧ (((s.wakeAll a).wakeAll b).wakeAll c).waiting d = s.waiting d ∧ (((s.wakeAll a).wakeAll b).wakeAll c).wakeAll d = (s.waiting a ++ s.waiting b ++ s.waiting c ++ s.waiting d).foldl PS.out s := by
  have p1 := wakeAll_ps h a
  have p2 := wakeAll_ps p1 b
  have e1 := waits_other h h1
  have e2 : ((s.wakeAll a).wakeAll b).waiting c = s.waiting c := by rw [waits_other p1 h4, waits_other h h2]
  have e3 : (((s.wakeAll a).wakeAll b).wakeAll c).waiting d = s.waiting d := by rw [waits_other p2 h6, waits_other p1 h5, waits_other h h3]
  refine ⟨e1, e2, e3, ?_⟩
  have f4 : (((s.wakeAll a).wakeAll b).wakeAll c).wakeAll d = (s.waiting d).foldl PS.out (((s.wakeAll a).wakeAll b).wakeAll c) := by
    show ((((s.wakeAll a).wakeAll b).wakeAll c).waiting d).foldl PS.out _ = _
    rw [e3]
  have f3 : ((s.wakeAll a).wakeAll b).wakeAll c = (s.waiting c).foldl PS.out ((s.wakeAll a).wakeAll b) := by
    show (((s.wakeAll a).wakeAll b).waiting c).foldl PS.out _ = _
    rw [e2]
  have f2 : (s.wakeAll a).wakeAll b = (s.waiting b).foldl PS.out (s.wakeAll a) := by
    show ((s.wakeAll a).waiting b).foldl PS.out _ = _
    rw [e1]
  rw [f4, f3, f2, List.foldl_append, List.foldl_append, List.foldl_append]; rfl
theorem wait_dis {s : PS} (h : PsOk s) {a b : Sp} (hab : a ≠ b) {v : Int} (h1 : v ∈ s.waiting a) (h2 : v ∈ s.waiting b) : False := by
  obtain ⟨_, x, hx, hxa, e1⟩ := waiting_mem.1 h1
  obtain ⟨_, y, hy, hya, e2⟩ := waiting_mem.1 h2
  have : x = y := wt_one h.nd hx hy (by omega)
  subst this
  exact hab (hxa.symm.trans hya)
theorem four_nd {s : PS} (h : PsOk s) {a b c d : Sp} (h1 : a ≠ b) (h2 : a ≠ c) (h3 : a ≠ d) (h4 : b ≠ c) (h5 : b ≠ d) (h6 : c ≠ d) : (s.waiting a ++ s.waiting b ++ s.waiting c ++ s.waiting d).Nodup ∧ ∀ v ∈ s.waiting a ++ s.waiting b ++ s.waiting c ++ s.waiting d, ∃ w ∈ s.W, (w.i : Int) = v := by
  refine ⟨?_, fun v hv => ?_⟩
  · refine List.nodup_append.2 ⟨List.nodup_append.2 ⟨List.nodup_append.2 ⟨waiting_nodup h a, waiting_nodup h b, fun u hu v hv e => wait_dis h h1 hu (e ▸ hv)⟩, waiting_nodup h c, fun u hu v hv e => ?_⟩, waiting_nodup h d, fun u hu v hv e => ?_⟩
    · rcases List.mem_append.1 hu with hu | hu
      · exact wait_dis h h2 hu (e ▸ hv)
      · exact wait_dis h h4 hu (e ▸ hv)
    · rcases List.mem_append.1 hu with hu | hu
      · rcases List.mem_append.1 hu with hu | hu
        · exact wait_dis h h3 hu (e ▸ hv)
        · exact wait_dis h h5 hu (e ▸ hv)
      · exact wait_dis h h6 hu (e ▸ hv)
  · have : ∃ e : Sp, v ∈ s.waiting e := by
      rcases List.mem_append.1 hv with hv | hv
      · rcases List.mem_append.1 hv with hv | hv
        · rcases List.mem_append.1 hv with hv | hv
          · exact ⟨a, hv⟩
          · exact ⟨b, hv⟩
        · exact ⟨c, hv⟩
      · exact ⟨d, hv⟩
    obtain ⟨e, hv⟩ := this
    obtain ⟨_, x, hx, _, q⟩ := waiting_mem.1 hv
    exact ⟨x, hx, q⟩
/-! ### The law's own state -/
def wkT : List Slt.Pl := opnT (opnT (Slt.freshT 128) 1) 2
structure WkI (M i : Nat) (z : PoS) : Prop where
  T : z.T = wkT
  f : z.f = fun _ => 18446744073709551615
  now : z.now = 10
  qm : z.s.qm = []
  len : z.s.sm.length = M
  rl : z.R.length = M
  zero : ∀ k, i ≤ k → k < M → z.s.sm[k]? = some 0
  prk : ∀ k, k < i → z.s.sm[k]? = some 2
  at_ : ∀ w ∈ z.s.W, ∃ n d : Nat, n < 2 ∧ d < 2 ∧ w.at_ = ((n : Int), (d : Int))
theorem wk_new (M : Nat) : WkI M 0 (((newS M 10).openE 1).openE 2) := ⟨rfl, rfl, rfl, rfl, by simp [newS, PoS.openE], by simp [newS, PoS.openE], fun k _ hk => by simp [newS, PoS.openE, hk], fun k hk => by omega, fun w hw => by cases hw⟩
theorem wkT0 : opnR (Slt.freshT 128) = ((0, 0), 0) := by decide +kernel
theorem wkT1 : opnR (opnT (Slt.freshT 128) 1) = ((1, 0), 0) := by decide +kernel
theorem wkG : (getT wkT 0 0).2 = 0 ∧ (getT wkT 1 0).2 = 0 ∧ (getT (clsT wkT 0 0) 1 0).2 = 0 := by decide +kernel
theorem wkGn {n : Nat} (h : n < 2) : (getT wkT (n : Int) 0).2 = 0 := by
  obtain rfl | rfl : n = 0 ∨ n = 1 := by omega
  · exact wkG.1
  · exact wkG.2.1
theorem wk_v {n d : Nat} (hn : n < 2) (hd : d < 2) : vldS ((n : Int), (d : Int)) := ⟨by dsimp only; omega, by dsimp only; omega, by dsimp only; omega⟩
theorem wk_step {M i : Nat} {z : PoS} (h : WkI M i z) (hp : PsOk z.s) (hi : i < M) {n d : Nat} (hn : n < 2) (hd : d < 2) :
    (stepR z.s.sm z.s.qm 0 1 (i : Int)).1 = 0 ∧ (z.start (i : Int)).waitE (i : Int) (n : Int) 0 (d : Int) = 0 ∧ WkI M (i + 1) ((z.start (i : Int)).wait (i : Int) (n : Int) 0 (d : Int)) ∧ ((z.start (i : Int)).wait (i : Int) (n : Int) 0 (d : Int)).s.W = z.s.W ++ [⟨i, ((n : Int), (d : Int))⟩] := by
  have h0 := h.zero i (Nat.le_refl i) hi
  have hl := (List.getElem?_eq_some_iff.1 h0).1
  have e1 : (stepR z.s.sm z.s.qm 0 1 (i : Int)).1 = 0 := by rw [stepR_ok h0]
  have hst : z.start (i : Int) = { z with s := ⟨z.s.sm.set i 1, [(i : Int)], z.s.W⟩, R := z.R.set i 0 } := by
    unfold PoS.start
    rw [if_pos e1, Int.toNat_natCast]
    unfold PS.step
    rw [stepR_ok h0, h.qm]; rfl
  have hsm : (z.s.sm.set i 1)[i]? = some 1 := by rw [List.getElem?_set, if_pos rfl, if_pos hl]
  have hdd : (d : Int) = 0 ∨ (d : Int) = 1 := by omega
  have e2 : (z.start (i : Int)).waitE (i : Int) (n : Int) 0 (d : Int) = 0 := by
    rw [hst]
    unfold PoS.waitE
    dsimp only
    rw [stR_in hsm, if_neg (fun q => q rfl), spE_ok _ hdd]
    dsimp only
    have hg : (getT z.T (n : Int) 0).2 = 0 := by rw [h.T]; exact wkGn hn
    rw [if_neg (fun q => q hg), if_neg (fun q => q rfl)]
    unfold PoS.chk
    rw [spE_ok _ hdd]
    dsimp only
    rw [if_pos hg, h.f, h.now, if_neg (show ¬ (18446744073709551615 : Nat) ≤ 10 by decide)]
  have hq : PsOk (z.start (i : Int)).s := by
    have := hp.step_ 0 1 (i : Int) (by decide) (by decide)
    unfold PoS.start
    rw [if_pos e1]; exact this
  have hpk := park_ok' (s := (z.start (i : Int)).s) (at_ := ((n : Int), (d : Int))) hq (i := i) (by rw [hst]; exact hsm) (wk_v hn hd)
  have hw : (z.start (i : Int)).wait (i : Int) (n : Int) 0 (d : Int) = { z.start (i : Int) with s := (z.start (i : Int)).s.add i ((n : Int), (d : Int)) } := by
    unfold PoS.wait
    rw [if_pos e2, hpk.2]
  have hs2 : ((z.start (i : Int)).wait (i : Int) (n : Int) 0 (d : Int)).s = ⟨(z.s.sm.set i 1).set i 2, [], z.s.W ++ [⟨i, ((n : Int), (d : Int))⟩]⟩ := by
    rw [hw]
    show (z.start (i : Int)).s.add i ((n : Int), (d : Int)) = _
    rw [hst]
    unfold PS.add
    dsimp only
    rw [stepR_ok hsm]
    simp
  have hR : ((z.start (i : Int)).wait (i : Int) (n : Int) 0 (d : Int)).R = z.R.set i 0 := by rw [hw, hst]
  refine ⟨e1, e2, ⟨by rw [hw, hst]; exact h.T, by rw [hw, hst]; exact h.f, by rw [hw, hst]; exact h.now, by rw [hs2], by rw [hs2]; simp [h.len], by rw [hR]; simp [h.rl], fun k h1 h2 => ?_, fun k hk => ?_, fun w hw2 => ?_⟩, by rw [hs2]⟩
  · rw [hs2]
    dsimp only
    rw [List.getElem?_set, if_neg (by omega), List.getElem?_set, if_neg (by omega)]
    exact h.zero k (by omega) h2
  · rw [hs2]
    dsimp only
    by_cases e : k = i
    · subst e
      rw [List.getElem?_set, if_pos rfl, if_pos (by rw [List.length_set]; exact hl)]
    · rw [List.getElem?_set, if_neg (by omega), List.getElem?_set, if_neg (by omega)]
      exact h.prk k (by omega)
  · rw [hs2] at hw2
    rcases List.mem_append.1 hw2 with hw2 | hw2
    · exact h.at_ w hw2
    · rw [List.mem_singleton] at hw2
      subst hw2
      exact ⟨n, d, hn, hd, rfl⟩
def wkA (z : PoS) : List Int := wAt z.s.W (0, 0) ++ wAt z.s.W (0, 1) ++ wAt z.s.W (1, 0) ++ wAt z.s.W (1, 1)
theorem wkA_all {M : Nat} {z : PoS} (h : WkI M M z) (hp : PsOk z.s) {k : Nat} (hk : k < M) : (k : Int) ∈ wkA z := by
  obtain ⟨w, hw, rfl⟩ := (hp.prk k).1 (h.prk k hk)
  obtain ⟨n, d, hn, hd, e⟩ := h.at_ w hw
  unfold wkA
  simp only [List.mem_append]
  obtain rfl | rfl : n = 0 ∨ n = 1 := by omega
  · obtain rfl | rfl : d = 0 ∨ d = 1 := by omega
    · exact .inl (.inl (.inl (wAt_mem.2 ⟨w, hw, e, rfl⟩)))
    · exact .inl (.inl (.inr (wAt_mem.2 ⟨w, hw, e, rfl⟩)))
  · obtain rfl | rfl : d = 0 ∨ d = 1 := by omega
    · exact .inl (.inr (wAt_mem.2 ⟨w, hw, e, rfl⟩))
    · exact .inr (wAt_mem.2 ⟨w, hw, e, rfl⟩)
theorem wait4 (s : PS) : s.waiting (0, 0) = wAt s.W (0, 0) ∧ s.waiting (0, 1) = wAt s.W (0, 1) ∧ s.waiting (1, 0) = wAt s.W (1, 0) ∧ s.waiting (1, 1) = wAt s.W (1, 1) := ⟨if_pos (by decide), if_pos (by decide), if_pos (by decide), if_pos (by decide)⟩
/-- What a state says when all of 'l' were woken. -/
theorem wk_end {M : Nat} {z z' : PoS} {why : Int} (h : WkI M M z) (hp : PsOk z.s) (hq : PsQ z.s) (hs : z'.s = (wkA z).foldl PS.out z.s) (hR : z'.R = markR z.R (wkA z) why) : z'.s.qm = wkA z ∧ ∀ k : Nat, k < M → z'.rsn (k : Int) = (why, 0) := by
  have hA : wkA z = z.s.waiting (0, 0) ++ z.s.waiting (0, 1) ++ z.s.waiting (1, 0) ++ z.s.waiting (1, 1) := by rw [(wait4 z.s).1, (wait4 z.s).2.1, (wait4 z.s).2.2.1, (wait4 z.s).2.2.2]; rfl
  obtain ⟨n1, n2⟩ := four_nd hp (a := (0, 0)) (b := (0, 1)) (c := (1, 0)) (d := (1, 1)) (by decide) (by decide) (by decide) (by decide) (by decide) (by decide)
  rw [← hA] at n1 n2
  refine ⟨by rw [hs, outs_qm _ _ hp hq n1 n2, h.qm]; rfl, fun k hk => ?_⟩
  have hm := wkA_all h hp hk
  obtain ⟨_, q2, _, _⟩ := outs_ok _ _ hp n1 n2
  have e1 : z'.s.sm[k]? = some 1 := by rw [hs, q2, if_pos hm]
  have e2 : z'.R[k]? = some why := by
    rw [hR, markR_at why _ _ (fun v hv => ?_), if_pos hm]
    obtain ⟨x, hx, rfl⟩ := n2 v hv
    exact ⟨x.i, rfl, by rw [h.rl, ← h.len]; exact wk_out hp hx⟩
  unfold PoS.rsn
  rw [stR_in e1, if_neg (fun q => q rfl), if_neg (fun q => q rfl), Int.toNat_natCast, List.getD_eq_getElem?_getD, e2]; rfl
theorem markR_app (R a b : List Int) (why : Int) : markR (markR R a why) b why = markR R (a ++ b) why := by unfold markR; rw [List.foldl_append]
theorem close_yes11 {z : PoS} {n g : Int} (h : (getT z.T n g).2 = 0) : z.close n g = ((z.cls n g).all (n, 0) 3).all (n, 1) 3 := by unfold PoS.close; rw [if_pos h]
theorem wkA_eq (z : PoS) : wAt z.s.W (0, 0) ++ (wAt z.s.W (0, 1) ++ (wAt z.s.W (1, 0) ++ wAt z.s.W (1, 1))) = wkA z := by unfold wkA; simp only [List.append_assoc]
theorem wk_close {M : Nat} {z : PoS} (h : WkI M M z) (hp : PsOk z.s) (hq : PsQ z.s) :
    (getT z.T 0 0).2 = 0 ∧ (getT (z.close 0 0).T 1 0).2 = 0 ∧ z.closeL 0 0 ++ (z.close 0 0).closeL 1 0 = wkA z ∧ ((z.close 0 0).close 1 0).s.qm = wkA z ∧ ∀ k : Nat, k < M → ((z.close 0 0).close 1 0).rsn (k : Int) = (3, 0) := by
  have g1 : (getT z.T 0 0).2 = 0 := by rw [h.T]; exact wkG.1
  have c1 : z.close 0 0 = ((z.cls 0 0).all (0, 0) 3).all (0, 1) 3 := by unfold PoS.close; rw [if_pos g1]
  have g2 : (getT (z.close 0 0).T 1 0).2 = 0 := by
    rw [c1]
    show (getT (clsT z.T 0 0) 1 0).2 = 0
    rw [h.T]; exact wkG.2.2
  have c2 : (z.close 0 0).close 1 0 = (((z.close 0 0).cls 1 0).all (1, 0) 3).all (1, 1) 3 := close_yes11 g2
  obtain ⟨f1, f2, f3, f4⟩ := four hp (a := (0, 0)) (b := (0, 1)) (c := (1, 0)) (d := (1, 1)) (by decide) (by decide) (by decide) (by decide) (by decide) (by decide)
  have hw := wait4 z.s
  rw [hw.1, hw.2.1, hw.2.2.1, hw.2.2.2] at f4
  have l1 : z.closeL 0 0 = wAt z.s.W (0, 0) ++ wAt z.s.W (0, 1) := by
    unfold PoS.closeL
    rw [if_pos g1]
    show z.s.waiting (0, 0) ++ (z.s.wakeAll (0, 0)).waiting (0, 1) = _
    rw [f1, hw.1, hw.2.1]
  have s2 : (z.close 0 0).s = (z.s.wakeAll (0, 0)).wakeAll (0, 1) := by rw [c1]; rfl
  have l2 : (z.close 0 0).closeL 1 0 = wAt z.s.W (1, 0) ++ wAt z.s.W (1, 1) := by
    unfold PoS.closeL
    rw [if_pos g2]
    show (z.close 0 0).s.waiting (1, 0) ++ ((z.close 0 0).s.wakeAll (1, 0)).waiting (1, 1) = _
    rw [s2, f2, f3, hw.2.2.1, hw.2.2.2]
  have hs : ((z.close 0 0).close 1 0).s = (wkA z).foldl PS.out z.s := by
    rw [c2]
    show ((z.close 0 0).s.wakeAll (1, 0)).wakeAll (1, 1) = _
    rw [s2]; exact f4
  have r2 : (z.close 0 0).R = markR z.R (wAt z.s.W (0, 0) ++ wAt z.s.W (0, 1)) 3 := by
    rw [c1]
    show markR (markR z.R (z.s.waiting (0, 0)) 3) ((z.s.wakeAll (0, 0)).waiting (0, 1)) 3 = _
    rw [f1, hw.1, hw.2.1, markR_app]
  have hR : ((z.close 0 0).close 1 0).R = markR z.R (wkA z) 3 := by
    rw [c2]
    show markR (markR (z.close 0 0).R ((z.close 0 0).s.waiting (1, 0)) 3) (((z.close 0 0).s.wakeAll (1, 0)).waiting (1, 1)) 3 = _
    rw [s2, f2, f3, hw.2.2.1, hw.2.2.2, r2, markR_app, markR_app, List.append_assoc, wkA_eq]
  refine ⟨g1, g2, ?_, wk_end h hp hq hs hR⟩
  rw [l1, l2]
  unfold wkA
  rw [← List.append_assoc]
/-! ### By deadlines -/
def wkF (k : Nat) : Nat → Nat := fun x => if k ≤ x ∧ x < 4 then 20 else 18446744073709551615
abbrev wkZ (z : PoS) (k : Nat) : PoS := { z with f := wkF k }
theorem wkZ_4 {M : Nat} {z : PoS} (h : WkI M M z) : wkZ z 4 = z := by
  have : wkF 4 = z.f := by rw [h.f]; funext x; unfold wkF; rw [if_neg (by omega)]
  unfold wkZ; rw [this]
theorem wk_dead {M : Nat} {z : PoS} (h : WkI M M z) {k : Nat} (h1 : 1 ≤ k) (h4 : k ≤ 4) :
    (wkZ z k).spE (((k - 1) / 2 : Nat) : Int) 0 (((k - 1) % 2 : Nat) : Int) = 0 ∧ (wkZ z k).deadL (((k - 1) / 2 : Nat) : Int) 0 (((k - 1) % 2 : Nat) : Int) 20 = [] ∧ (wkZ z k).dead (((k - 1) / 2 : Nat) : Int) 0 (((k - 1) % 2 : Nat) : Int) 20 = wkZ z (k - 1) := by
  have hd : (((k - 1) % 2 : Nat) : Int) = 0 ∨ (((k - 1) % 2 : Nat) : Int) = 1 := by omega
  have e1 : (wkZ z k).spE (((k - 1) / 2 : Nat) : Int) 0 (((k - 1) % 2 : Nat) : Int) = 0 := by
    rw [spE_ok _ hd]
    show (getT z.T _ 0).2 = 0
    rw [h.T]; exact wkGn (by omega)
  have hn : ¬ 20 ≤ (wkZ z k).now := by show ¬ 20 ≤ z.now; rw [h.now]; decide
  refine ⟨e1, by unfold PoS.deadL; rw [if_pos e1, if_neg hn], ?_⟩
  unfold PoS.dead
  rw [if_pos e1, if_neg hn]
  unfold wkZ
  have : updF (wkF k) (plS ((((k - 1) / 2 : Nat) : Int), (((k - 1) % 2 : Nat) : Int))) 20 = wkF (k - 1) := by
    funext x
    unfold updF wkF plS
    rw [Int.toNat_natCast, Int.toNat_natCast]
    by_cases e : x = 2 * ((k - 1) / 2) + (k - 1) % 2
    · rw [if_pos e, if_pos (by omega)]
    · rw [if_neg e]
      by_cases q : k ≤ x ∧ x < 4
      · rw [if_pos q, if_pos (by omega)]
      · rw [if_neg q, if_neg (by omega)]
  dsimp only
  rw [this]
def wkL : List Lp := [⟨0, 0, 20⟩, ⟨0, 1, 20⟩, ⟨1, 0, 20⟩, ⟨1, 1, 20⟩]
theorem wkF_not (x : Nat) : wkF 0 x = 20 ∨ wkF 0 x = 18446744073709551615 := by
  unfold wkF; split
  · exact .inl rfl
  · exact .inr rfl
theorem wk_lap0 : IsLap (wkF 0) 10 19 [] := by
  refine ⟨.nil, fun x => ⟨(fun hx => by cases hx), ?_⟩⟩
  rintro ⟨i, hi, h1, h2, rfl⟩
  rcases wkF_not i with e | e <;> rw [e] at h2 <;> omega
theorem wk_lap1 : IsLap (wkF 0) 19 20 wkL := by
  refine ⟨by decide, fun x => ⟨fun hx => ?_, ?_⟩⟩
  · have : x ∈ [lpI (wkF 0) 0, lpI (wkF 0) 1, lpI (wkF 0) 2, lpI (wkF 0) 3] := hx
    simp only [List.mem_cons, List.not_mem_nil, or_false] at this
    rcases this with rfl | rfl | rfl | rfl
    · exact ⟨0, by decide, by decide, by decide, rfl⟩
    · exact ⟨1, by decide, by decide, by decide, rfl⟩
    · exact ⟨2, by decide, by decide, by decide, rfl⟩
    · exact ⟨3, by decide, by decide, by decide, rfl⟩
  · rintro ⟨i, hi, h1, h2, rfl⟩
    have h4 : i < 4 := by
      by_cases q : i < 4
      · exact q
      · unfold wkF at h2; rw [if_neg (by omega)] at h2; omega
    show lpI (wkF 0) i ∈ [lpI (wkF 0) 0, lpI (wkF 0) 1, lpI (wkF 0) 2, lpI (wkF 0) 3]
    obtain rfl | rfl | rfl | rfl : i = 0 ∨ i = 1 ∨ i = 2 ∨ i = 3 := by omega
    all_goals simp
def wkY (z : PoS) : PoS := ((wkZ z 0).advS 19)
def wkE (z : PoS) : PoS := (((wkY z).advS 20).laps wkL).1
theorem wk_adv {M : Nat} {z : PoS} (h : WkI M M z) (hp : PsOk z.s) (hq : PsQ z.s) :
    advE11 (wkZ z 0).now 19 = 0 ∧ LapR11 (wkZ z 0).f (wkZ z 0).now 19 [] ∧ advE11 (wkY z).now 20 = 0 ∧ LapR11 (wkY z).f (wkY z).now 20 wkL ∧ (((wkY z).advS 20).laps wkL).2 = wkA z ∧ (wkE z).s.qm = wkA z ∧ ∀ k : Nat, k < M → (wkE z).rsn (k : Int) = (2, 0) := by
  have n0 : (wkZ z 0).now = 10 := h.now
  have a1 : advE11 (wkZ z 0).now 19 = 0 := by rw [n0]; decide
  have n1 : (wkY z).now = 19 := by show advN11 (wkZ z 0).now 19 = 19; rw [n0]; decide
  have a2 : advE11 (wkY z).now 20 = 0 := by rw [n1]; decide
  obtain ⟨f1, f2, f3, f4⟩ := four hp (a := (0, 0)) (b := (0, 1)) (c := (1, 0)) (d := (1, 1)) (by decide) (by decide) (by decide) (by decide) (by decide) (by decide)
  have hw := wait4 z.s
  rw [hw.1, hw.2.1, hw.2.2.1, hw.2.2.2] at f4
  have hs : (wkE z).s = (wkA z).foldl PS.out z.s := f4
  have hR : (wkE z).R = markR z.R (wkA z) 2 := by
    show markR (markR (markR (markR z.R (z.s.waiting (0, 0)) 2) ((z.s.wakeAll (0, 0)).waiting (0, 1)) 2) (((z.s.wakeAll (0, 0)).wakeAll (0, 1)).waiting (1, 0)) 2) ((((z.s.wakeAll (0, 0)).wakeAll (0, 1)).wakeAll (1, 0)).waiting (1, 1)) 2 = _
    rw [f1, f2, f3, hw.1, hw.2.1, hw.2.2.1, hw.2.2.2, markR_app, markR_app, markR_app, wkA_eq]
  refine ⟨a1, by unfold LapR11; rw [if_pos a1, n0]; exact wk_lap0, a2, by unfold LapR11; rw [if_pos a2, n1]; exact wk_lap1, ?_, wk_end h hp hq hs hR⟩
  show z.s.waiting (0, 0) ++ ((z.s.wakeAll (0, 0)).waiting (0, 1) ++ (((z.s.wakeAll (0, 0)).wakeAll (0, 1)).waiting (1, 0) ++ ((((z.s.wakeAll (0, 0)).wakeAll (0, 1)).wakeAll (1, 0)).waiting (1, 1) ++ []))) = _
  rw [f1, f2, f3, hw.1, hw.2.1, hw.2.2.1, hw.2.2.2, List.append_nil]
  unfold wkA
  simp only [List.append_assoc]
theorem bit1 (a : Nat) : ∃ n : Nat, n < 2 ∧ IntKind.u64.wrap (BitVec.ofInt IntKind.u64.bits (a : Int) &&& BitVec.ofInt IntKind.u64.bits 1).toNat = (n : Int) := by
  refine ⟨(BitVec.ofInt IntKind.u64.bits (a : Int) &&& BitVec.ofInt IntKind.u64.bits 1).toNat, ?_, ?_⟩
  · rw [BitVec.toNat_and]
    exact Nat.lt_of_le_of_lt Nat.and_le_right (by decide)
  · have := (BitVec.ofInt IntKind.u64.bits (a : Int) &&& BitVec.ofInt IntKind.u64.bits 1).isLt
    exact w64 ⟨by omega, by simp only [IntKind.bits] at this ⊢; omega⟩
theorem wkq {k : Nat} (h1 : 1 ≤ k) (h4 : k ≤ 4) : IntKind.i64.wrap (((k : Int) - 1).tdiv 2) = (((k - 1) / 2 : Nat) : Int) := by
  obtain rfl | rfl | rfl | rfl : k = 1 ∨ k = 2 ∨ k = 3 ∨ k = 4 := by omega
  all_goals decide
theorem wkr {k : Nat} (h1 : 1 ≤ k) (h4 : k ≤ 4) : ((k : Int) - 1).tmod 2 = (((k - 1) % 2 : Nat) : Int) := by
  obtain rfl | rfl | rfl | rfl : k = 1 ∨ k = 2 ∨ k = 3 ∨ k = 4 := by omega
  all_goals decide
structure WksW where
  i : Nat
  N : Nat
  z : PoS
  m : PoM
  A0 : List Int
  o0 : Option Nat
  c0 : Nat
  t0 : List Value
  A1 : List Int
  o1 : Option Nat
  c1 : Nat
  t1 : List Value
  A2 : List Int
  o2 : Option Nat
  c2 : Nat
  t2 : List Value
  A3 : List Int
  o3 : Option Nat
  c3 : Nat
  t3 : List Value
structure WkD where
  k : Nat
  N : Nat
  m : PoM
end Go.Proofs.YtbkdebnkoidicaaGreat
end
section
set_option linter.unusedVariables false
set_option maxRecDepth 20000
set_option maxHeartbeats 16000000
namespace Go.Proofs.YtbkdebnkoidicaaGreat
theorem lwakes_bad (m : Int) (file dirs : Nat) (b : Bool) (h : m < 1 ∨ 64 < m) : Spec Tryz.prog 4 [.int .i64 m, .int .u64 (file : Int), .int .u64 (dirs : Int), .bool b] [] (fun r H' => r = .bool true ∧ H' = []) := by
  refine Spec.of (E := [(0, .int .i64 m), (1, .int .u64 (file : Int)), (2, .int .u64 (dirs : Int)), (3, .bool b)]) Tryz.func4 rfl (by kernel_rfl) Tryz.ntmps4 rfl rfl (fun w => ?_)
  refine WC_seq ?_
  refine WC_region ?_
  refine WL_val rfl rfl rfl (R_assign rfl rfl) ?_
  refine WL_nil ?_
  refine WQ_code ?_
  refine WC_seq ?_
  refine WC_seq ?_
  refine WC_region ?_
  refine WL_val rfl rfl rfl (R_move rfl rfl) ?_
  refine WL_val rfl rfl rfl (R_lss rfl rfl rfl) ?_
  refine WL_val rfl rfl rfl (R_move rfl rfl) ?_
  refine WL_splitD (s := 31) rfl (fun c1 => ?_) (fun c1 => ?_)
  · refine WL_skip rfl rfl rfl ?_
    refine WL_skip rfl rfl rfl ?_
    refine WL_val rfl rfl rfl (R_pickT rfl rfl rfl) ?_
    refine WL_nil ?_
    refine WQ_code ?_
    refine WC_T rfl ?_
    refine WC_seq ?_
    refine WC_region ?_
    refine WL_do rfl rfl rfl (D_call (known_ok) rfl rfl rfl rfl (pqC)) ?_
    rintro _ _ ⟨_, ⟨rfl, rfl⟩, rfl⟩
    refine WL_val rfl rfl rfl (R_assign rfl rfl) ?_
    refine WL_nil ?_
    refine WQ_code ?_
    refine WC_ret ?_
    refine WQ_ret rfl rfl (.cons (.tmp rfl) .nil) rfl (by
        exact ⟨rfl, rfl⟩) (pqC)
  · refine WL_val rfl rfl rfl (R_move rfl rfl) ?_
    refine WL_val rfl rfl rfl (R_gtr rfl rfl rfl) ?_
    refine WL_val rfl rfl rfl (R_pickF rfl rfl rfl) ?_
    refine WL_nil ?_
    refine WQ_code ?_
    refine WC_dec rfl (fun c2 => ?_) (fun c2 => ?_)
    · refine WC_seq ?_
      refine WC_region ?_
      refine WL_do rfl rfl rfl (D_call (known_ok) rfl rfl rfl rfl (pqC)) ?_
      rintro _ _ ⟨_, ⟨rfl, rfl⟩, rfl⟩
      refine WL_val rfl rfl rfl (R_assign rfl rfl) ?_
      refine WL_nil ?_
      refine WQ_code ?_
      refine WC_ret ?_
      refine WQ_ret rfl rfl (.cons (.tmp rfl) .nil) rfl (by
          exact ⟨rfl, rfl⟩) (pqC)
    · exfalso; omega
theorem lwakes_ok (M : Nat) (hm1 : 1 ≤ M) (hm2 : M ≤ 64) (file dirs : Nat) (b : Bool) : Spec Tryz.prog 4 [.int .i64 (M : Int), .int .u64 (file : Int), .int .u64 (dirs : Int), .bool b] [] (fun r H' => r = .bool true ∧ H' = []) := by
  refine Spec.of (E := [(0, .int .i64 (M : Int)), (1, .int .u64 (file : Int)), (2, .int .u64 (dirs : Int)), (3, .bool b)]) Tryz.func4 rfl (by kernel_rfl) Tryz.ntmps4 rfl rfl (fun w => ?_)
  refine WC_seq ?_
  refine WC_region ?_
  refine WL_val rfl rfl rfl (R_assign rfl rfl) ?_
  refine WL_nil ?_
  refine WQ_code ?_
  refine WC_seq ?_
  refine WC_seq ?_
  refine WC_region ?_
  refine WL_val rfl rfl rfl (R_move rfl rfl) ?_
  refine WL_val rfl rfl rfl (R_lss rfl rfl rfl) ?_
  refine WL_val rfl rfl rfl (R_move rfl rfl) ?_
  refine WL_set (s := 31) (v := .bool false) rfl (by exact congrArg Value.bool (decide_eq_false (by omega))) ?_
  refine WL_val rfl rfl rfl (R_move rfl rfl) ?_
  refine WL_val rfl rfl rfl (R_gtr rfl rfl rfl) ?_
  refine WL_val rfl rfl rfl (R_pickF rfl rfl rfl) ?_
  refine WL_nil ?_
  refine WQ_code ?_
  refine WC_dF rfl (by omega) ?_
  refine WC_skip ?_
  refine WQ_code ?_
  refine WC_seq ?_
  refine WC_region ?_
  refine WL_val rfl rfl rfl (R_move rfl rfl) ?_
  refine WL_do rfl rfl rfl (D_call (po_new M 10 hm1 hm2 (by decide)) rfl rfl rfl rfl (pqC)) ?_
  rintro _ _ ⟨_, ⟨m0, rfl, rfl, g0⟩, rfl⟩
  refine WL_val rfl rfl rfl (R_move rfl rfl) ?_
  refine WL_val rfl rfl rfl (R_extract rfl rfl rfl) ?_
  refine WL_val rfl rfl rfl (R_extract rfl rfl rfl) ?_
  refine WL_val rfl rfl rfl (R_assign rfl rfl) ?_
  refine WL_val rfl rfl rfl (R_assign rfl rfl) ?_
  refine WL_nil ?_
  refine WQ_code ?_
  refine WC_seq ?_
  refine WC_seq ?_
  refine WC_region ?_
  refine WL_val rfl rfl rfl (R_move rfl rfl) ?_
  refine WL_val rfl rfl rfl (R_ptrEqNil rfl Tryz.underlying23 rfl) ?_
  refine WL_val rfl rfl rfl (R_move rfl rfl) ?_
  refine WL_val rfl rfl rfl (R_move rfl rfl) ?_
  refine WL_val rfl rfl rfl (R_neq rfl rfl rfl) ?_
  refine WL_set (s := 45) (v := .bool false) rfl (by simp) ?_
  refine WL_val rfl rfl rfl (R_pickF rfl rfl rfl) ?_
  refine WL_val rfl rfl rfl (R_move rfl rfl) ?_
  refine WL_val rfl rfl rfl (R_move rfl rfl) ?_
  refine WL_do rfl rfl rfl (D_call (lfd_ok _ _) rfl rfl rfl rfl (pqC)) ?_
  rintro _ _ ⟨_, ⟨rfl, rfl⟩, rfl⟩
  refine WL_do rfl rfl rfl (D_call (opens_ok m0 g0 (by omega) 1 0 0 wkT0) rfl rfl rfl rfl (pqC)) ?_
  rintro _ _ ⟨_, ⟨rfl, rfl, g1⟩, rfl⟩
  refine WL_val rfl rfl rfl (R_not rfl rfl) ?_
  refine WL_val rfl rfl rfl (R_pickF rfl rfl rfl) ?_
  refine WL_val rfl rfl rfl (R_move rfl rfl) ?_
  refine WL_val rfl rfl rfl (R_move rfl rfl) ?_
  refine WL_do rfl rfl rfl (D_call (lfd_ok _ _) rfl rfl rfl rfl (pqC)) ?_
  rintro _ _ ⟨_, ⟨rfl, rfl⟩, rfl⟩
  refine WL_do rfl rfl rfl (D_call (opens_ok m0 g1 (by omega) 2 1 0 wkT1) rfl rfl rfl rfl (pqC)) ?_
  rintro _ _ ⟨_, ⟨rfl, rfl, g2⟩, rfl⟩
  refine WL_val rfl rfl rfl (R_not rfl rfl) ?_
  refine WL_val rfl rfl rfl (R_pickF rfl rfl rfl) ?_
  refine WL_nil ?_
  refine WQ_code ?_
  refine WC_F rfl ?_
  refine WC_skip ?_
  refine WQ_code ?_
  refine WC_seq ?_
  refine WC_region ?_
  refine WL_do rfl rfl rfl (D_alloc rfl zv40) ?_
  rintro _ _ ⟨b1, rfl, rfl⟩
  refine WL_nil ?_
  refine WQ_code ?_
  refine WC_seq ?_
  refine WC_seq ?_
  refine WC_region ?_
  refine WL_val rfl rfl rfl (R_assign rfl rfl) ?_
  refine WL_nil ?_
  refine WQ_code ?_
  refine WC_block ?_
  refine WC_none 3 ?_
  refine WC_none 3 ?_
  refine WC_none 3 ?_
  refine WC_none 3 ?_
  rw [show ([.slice none 0 0, .slice none 0 0, .slice none 0 0, .slice none 0 0] : List Value) = [slV none ([] : List Int).length 0, slV none ([] : List Int).length 0, slV none ([] : List Int).length 0, slV none ([] : List Int).length 0] from rfl]
  refine WC_loopF (G := WksW) [8, 12, 13, 14, 59, 60, 61, 62, 63, 64, 65, 66, 67, 68, 69, 70, 71, 72, 73, 74, 75, 76, 77, 78, 79, 80, 81, 82, 83, 84, 85, 86, 87, 88, 89, 90, 91, 92, 93, 94, 95, 96, 97, 98, 99, 100, 101, 102] (fun y => y.i ≤ M ∧ PoIs y.N y.z y.m ∧ y.N ≤ 2 * y.i + 2 ∧ y.m.p = m0.p ∧ WkI M y.i y.z ∧ wAt y.z.s.W (0, 0) = y.A0 ∧ wAt y.z.s.W (0, 1) = y.A1 ∧ wAt y.z.s.W (1, 0) = y.A2 ∧ wAt y.z.s.W (1, 1) = y.A3 ∧ Own y.o0 y.A0.length y.c0 1 (ivs y.A0) y.t0 ∧ Own y.o1 y.A1.length y.c1 1 (ivs y.A1) y.t1 ∧ Own y.o2 y.A2.length y.c2 1 (ivs y.A2) y.t2 ∧ Own y.o3 y.A3.length y.c3 1 (ivs y.A3) y.t3) (fun y => [(12, .int .i64 (y.i : Int))]) (fun y => ⟨some b1, cl [slV y.o0 y.A0.length y.c0, slV y.o1 y.A1.length y.c1, slV y.o2 y.A2.length y.c2, slV y.o3 y.A3.length y.c3] 40⟩ :: ⟨y.o0, cl (ivs y.A0 ++ y.t0) 3⟩ :: ⟨y.o1, cl (ivs y.A1 ++ y.t1) 3⟩ :: ⟨y.o2, cl (ivs y.A2 ++ y.t2) 3⟩ :: ⟨y.o3, cl (ivs y.A3 ++ y.t3) 3⟩ :: poH y.z y.m) (fun y => M - y.i) (⟨0, 2, ((newS M 10).openE 1).openE 2, m0, [], none, 0, [], [], none, 0, [], [], none, 0, [], [], none, 0, []⟩) (⟨Nat.zero_le _, g2, Nat.le_refl _, rfl, wk_new M, rfl, rfl, rfl, rfl, Own.empty 1, Own.empty 1, Own.empty 1, Own.empty 1⟩) leZ (pqC) ?_
  rintro y ⟨hyi, hy, hyn, hyp, hw, hA0, hA1, hA2, hA3, hO0, hO1, hO2, hO3⟩
  rw [← hyp]
  have hL0 : y.A0.length ≤ 64 := by rw [← hA0]; exact Nat.le_trans (wAt_len _ _) hy.pk.ps.few
  have hL1 : y.A1.length ≤ 64 := by rw [← hA1]; exact Nat.le_trans (wAt_len _ _) hy.pk.ps.few
  have hL2 : y.A2.length ≤ 64 := by rw [← hA2]; exact Nat.le_trans (wAt_len _ _) hy.pk.ps.few
  have hL3 : y.A3.length ≤ 64 := by rw [← hA3]; exact Nat.le_trans (wAt_len _ _) hy.pk.ps.few
  refine WC_seq ?_
  refine WC_seq ?_
  refine WC_region ?_
  refine WL_val rfl rfl rfl (R_move rfl rfl) ?_
  refine WL_val rfl rfl rfl (R_move rfl rfl) ?_
  refine WL_val rfl rfl rfl (R_lss rfl rfl rfl) ?_
  refine WL_nil ?_
  refine WQ_code ?_
  refine WC_dec rfl (fun c1 => ?_) (fun c1 => ?_)
  · obtain ⟨nn, hnn, en⟩ := bit1 (file / 2 ^ y.i)
    obtain ⟨dd, hdd, ed⟩ := bit1 (dirs / 2 ^ y.i)
    rcases (show (nn = 0 ∧ dd = 0) ∨ (nn = 0 ∧ dd = 1) ∨ (nn = 1 ∧ dd = 0) ∨ (nn = 1 ∧ dd = 1) by omega) with ⟨rfl, rfl⟩ | ⟨rfl, rfl⟩ | ⟨rfl, rfl⟩ | ⟨rfl, rfl⟩
    · have hst := wk_step hw hy.pk.ps (show y.i < M by omega) (n := 0) (d := 0) (by decide) (by decide)
      refine WC_skip ?_
      refine WQ_code ?_
      refine WC_seq ?_
      refine WC_block ?_
      refine WC_seq ?_
      refine WC_region ?_
      refine WL_val rfl rfl rfl (R_move rfl rfl) ?_
      refine WL_val rfl rfl rfl (R_move rfl rfl) ?_
      refine WL_val rfl rfl rfl (R_conv (r := ((y.i : Nat) : Int)) rfl Tryz.underlying3 Tryz.underlying41 rfl ((show IntKind.u64.wrap _ = _ from w64 (by omega)))) ?_
      refine WL_val rfl rfl rfl (R_shrR (r := ((file / 2 ^ y.i : Nat) : Int)) rfl rfl rfl (by omega) (shrN (s := y.i) (b := 64) (by omega))) ?_
      refine WL_val rfl rfl rfl (R_andR (r := ((0 : Nat) : Int)) rfl rfl rfl (en)) ?_
      refine WL_val rfl rfl rfl (R_conv (r := ((0 : Nat) : Int)) rfl Tryz.underlying27 Tryz.underlying3 rfl (rfl)) ?_
      refine WL_val rfl rfl rfl (R_move rfl rfl) ?_
      refine WL_val rfl rfl rfl (R_move rfl rfl) ?_
      refine WL_val rfl rfl rfl (R_conv (r := ((y.i : Nat) : Int)) rfl Tryz.underlying3 Tryz.underlying41 rfl ((show IntKind.u64.wrap _ = _ from w64 (by omega)))) ?_
      refine WL_val rfl rfl rfl (R_shrR (r := ((dirs / 2 ^ y.i : Nat) : Int)) rfl rfl rfl (by omega) (shrN (s := y.i) (b := 64) (by omega))) ?_
      refine WL_val rfl rfl rfl (R_andR (r := ((0 : Nat) : Int)) rfl rfl rfl (ed)) ?_
      refine WL_val rfl rfl rfl (R_conv (r := ((0 : Nat) : Int)) rfl Tryz.underlying27 Tryz.underlying3 rfl (rfl)) ?_
      refine WL_val rfl rfl rfl (R_assign rfl rfl) ?_
      refine WL_val rfl rfl rfl (R_assign rfl rfl) ?_
      refine WL_nil ?_
      refine WQ_code ?_
      refine WC_seq ?_
      refine WC_seq ?_
      refine WC_region ?_
      refine WL_val rfl rfl rfl (R_move rfl rfl) ?_
      refine WL_val rfl rfl rfl (R_move rfl rfl) ?_
      refine WL_do rfl rfl rfl (D_call (po_start y.m hy (by omega) (y.i : Int)) rfl rfl rfl rfl (pqC)) ?_
      rintro _ _ ⟨_, ⟨m1, rfl, rfl, hp1, h1⟩, rfl⟩
      rw [← hp1]
      refine WL_val rfl rfl rfl (R_neq rfl rfl rfl) ?_
      refine WL_set (s := 79) (v := .bool false) rfl (by exact congrArg Value.bool (decide_eq_false (fun q => q hst.1))) ?_
      refine WL_val rfl rfl rfl (R_move rfl rfl) ?_
      refine WL_val rfl rfl rfl (R_move rfl rfl) ?_
      refine WL_val rfl rfl rfl (R_move rfl rfl) ?_
      refine WL_val rfl rfl rfl (R_move rfl rfl) ?_
      refine WL_do rfl rfl rfl (D_call (lfd_ok _ _) rfl rfl rfl rfl (pqC)) ?_
      rintro _ _ ⟨_, ⟨rfl, rfl⟩, rfl⟩
      refine WL_val rfl rfl rfl (R_move rfl rfl) ?_
      refine WL_do rfl rfl rfl (D_call (po_wait m1 h1 (by omega) (y.i : Int) ((0 : Nat) : Int) 0 ((0 : Nat) : Int)) rfl rfl rfl rfl (pqC)) ?_
      rintro _ _ ⟨_, ⟨m2, rfl, rfl, hp2, h2⟩, rfl⟩
      rw [← hp2]
      refine WL_val rfl rfl rfl (R_neq rfl rfl rfl) ?_
      refine WL_set (s := 87) (v := .bool false) rfl (by exact congrArg Value.bool (decide_eq_false (fun q => q hst.2.1))) ?_
      refine WL_val rfl rfl rfl (R_pickF rfl rfl rfl) ?_
      refine WL_nil ?_
      refine WQ_code ?_
      refine WC_F rfl ?_
      refine WC_skip ?_
      refine WQ_code ?_
      refine WC_region ?_
      refine WL_val rfl rfl rfl (R_move rfl rfl) ?_
      refine WL_val rfl rfl rfl (R_mulR (r := 0) rfl rfl rfl (rfl)) ?_
      refine WL_val rfl rfl rfl (R_move rfl rfl) ?_
      refine WL_val rfl rfl rfl (R_addR (r := ((0 : Nat) : Int)) rfl rfl rfl (rfl)) ?_
      refine WL_val rfl rfl rfl (R_move rfl rfl) ?_
      refine WL_val rfl rfl rfl (R_mulR (r := 0) rfl rfl rfl (rfl)) ?_
      refine WL_val rfl rfl rfl (R_move rfl rfl) ?_
      refine WL_val rfl rfl rfl (R_addR (r := ((0 : Nat) : Int)) rfl rfl rfl (rfl)) ?_
      refine WL_val rfl rfl rfl (R_indexAddrAN rfl Tryz.underlying40 Tryz.sizeOf34 rfl rfl (by omega)) ?_
      refine WL_val rfl rfl rfl (R_load rfl sc34 rfl (mmC) rfl) ?_
      refine WL_val rfl rfl rfl (R_move rfl rfl) ?_
      refine WL_do rfl rfl rfl (D_buildSlice rfl si34 rfl rfl rfl) ?_
      rintro _ _ ⟨b2, rfl, rfl⟩
      refine WL_do rfl rfl rfl (D_append rfl si34 rfl (hO0) (plC) rfl (mmC) ((atZ : At _ 0 [_])) (rfl) (rfl) (by omega) (by omega)) ?_
      rintro _ _ ⟨ob3, cap3, tl3, rfl, own3, rfl⟩
      rw [show ivs y.A0 ++ [Value.int .i64 ((y.i : Nat) : Int)] = ivs (y.A0 ++ [((y.i : Nat) : Int)]) from by simp, show y.A0.length + 1 = (y.A0 ++ [((y.i : Nat) : Int)]).length from by simp] at *
      refine WL_val rfl rfl rfl (R_indexAddrAN rfl Tryz.underlying40 Tryz.sizeOf34 rfl rfl (by omega)) ?_
      refine WL_do0 rfl rfl (D_store (vs := [_]) rfl Tryz.sizeOf34 rfl rfl rfl rfl rfl (plC) (by exact Nat.le_of_ble_eq_true rfl)) ?_
      rintro _ _ rfl
      refine WL_nil ?_
      refine WQ_code ?_
      refine WC_region ?_
      refine WL_val rfl rfl rfl (R_move rfl rfl) ?_
      refine WL_val rfl rfl rfl (R_add rfl rfl rfl (by omega)) ?_
      refine WL_val rfl rfl rfl (R_assign rfl rfl) ?_
      refine WL_nil ?_
      refine WQ_nextF (⟨y.i + 1, y.N + 1 + 1, ((y.z.start (y.i : Int)).wait (y.i : Int) ((0 : Nat) : Int) 0 ((0 : Nat) : Int)), m2, y.A0 ++ [((y.i : Nat) : Int)], ob3, cap3, tl3, y.A1, y.o1, y.c1, y.t1, y.A2, y.o2, y.c2, y.t2, y.A3, y.o3, y.c3, y.t3⟩) (⟨by dsimp only; omega, h2, by dsimp only; omega, rfl, hst.2.2.1, by dsimp only; rw [hst.2.2.2, wAt_snoc, if_pos (by decide), hA0], by dsimp only; rw [hst.2.2.2, wAt_snoc, if_neg (by decide), List.append_nil]; exact hA1, by dsimp only; rw [hst.2.2.2, wAt_snoc, if_neg (by decide), List.append_nil]; exact hA2, by dsimp only; rw [hst.2.2.2, wAt_snoc, if_neg (by decide), List.append_nil]; exact hA3, own3, hO1, hO2, hO3⟩) (by dsimp only; omega) leZ (psZ) rfl (pqC)
    · have hst := wk_step hw hy.pk.ps (show y.i < M by omega) (n := 0) (d := 1) (by decide) (by decide)
      refine WC_skip ?_
      refine WQ_code ?_
      refine WC_seq ?_
      refine WC_block ?_
      refine WC_seq ?_
      refine WC_region ?_
      refine WL_val rfl rfl rfl (R_move rfl rfl) ?_
      refine WL_val rfl rfl rfl (R_move rfl rfl) ?_
      refine WL_val rfl rfl rfl (R_conv (r := ((y.i : Nat) : Int)) rfl Tryz.underlying3 Tryz.underlying41 rfl ((show IntKind.u64.wrap _ = _ from w64 (by omega)))) ?_
      refine WL_val rfl rfl rfl (R_shrR (r := ((file / 2 ^ y.i : Nat) : Int)) rfl rfl rfl (by omega) (shrN (s := y.i) (b := 64) (by omega))) ?_
      refine WL_val rfl rfl rfl (R_andR (r := ((0 : Nat) : Int)) rfl rfl rfl (en)) ?_
      refine WL_val rfl rfl rfl (R_conv (r := ((0 : Nat) : Int)) rfl Tryz.underlying27 Tryz.underlying3 rfl (rfl)) ?_
      refine WL_val rfl rfl rfl (R_move rfl rfl) ?_
      refine WL_val rfl rfl rfl (R_move rfl rfl) ?_
      refine WL_val rfl rfl rfl (R_conv (r := ((y.i : Nat) : Int)) rfl Tryz.underlying3 Tryz.underlying41 rfl ((show IntKind.u64.wrap _ = _ from w64 (by omega)))) ?_
      refine WL_val rfl rfl rfl (R_shrR (r := ((dirs / 2 ^ y.i : Nat) : Int)) rfl rfl rfl (by omega) (shrN (s := y.i) (b := 64) (by omega))) ?_
      refine WL_val rfl rfl rfl (R_andR (r := ((1 : Nat) : Int)) rfl rfl rfl (ed)) ?_
      refine WL_val rfl rfl rfl (R_conv (r := ((1 : Nat) : Int)) rfl Tryz.underlying27 Tryz.underlying3 rfl (rfl)) ?_
      refine WL_val rfl rfl rfl (R_assign rfl rfl) ?_
      refine WL_val rfl rfl rfl (R_assign rfl rfl) ?_
      refine WL_nil ?_
      refine WQ_code ?_
      refine WC_seq ?_
      refine WC_seq ?_
      refine WC_region ?_
      refine WL_val rfl rfl rfl (R_move rfl rfl) ?_
      refine WL_val rfl rfl rfl (R_move rfl rfl) ?_
      refine WL_do rfl rfl rfl (D_call (po_start y.m hy (by omega) (y.i : Int)) rfl rfl rfl rfl (pqC)) ?_
      rintro _ _ ⟨_, ⟨m1, rfl, rfl, hp1, h1⟩, rfl⟩
      rw [← hp1]
      refine WL_val rfl rfl rfl (R_neq rfl rfl rfl) ?_
      refine WL_set (s := 79) (v := .bool false) rfl (by exact congrArg Value.bool (decide_eq_false (fun q => q hst.1))) ?_
      refine WL_val rfl rfl rfl (R_move rfl rfl) ?_
      refine WL_val rfl rfl rfl (R_move rfl rfl) ?_
      refine WL_val rfl rfl rfl (R_move rfl rfl) ?_
      refine WL_val rfl rfl rfl (R_move rfl rfl) ?_
      refine WL_do rfl rfl rfl (D_call (lfd_ok _ _) rfl rfl rfl rfl (pqC)) ?_
      rintro _ _ ⟨_, ⟨rfl, rfl⟩, rfl⟩
      refine WL_val rfl rfl rfl (R_move rfl rfl) ?_
      refine WL_do rfl rfl rfl (D_call (po_wait m1 h1 (by omega) (y.i : Int) ((0 : Nat) : Int) 0 ((1 : Nat) : Int)) rfl rfl rfl rfl (pqC)) ?_
      rintro _ _ ⟨_, ⟨m2, rfl, rfl, hp2, h2⟩, rfl⟩
      rw [← hp2]
      refine WL_val rfl rfl rfl (R_neq rfl rfl rfl) ?_
      refine WL_set (s := 87) (v := .bool false) rfl (by exact congrArg Value.bool (decide_eq_false (fun q => q hst.2.1))) ?_
      refine WL_val rfl rfl rfl (R_pickF rfl rfl rfl) ?_
      refine WL_nil ?_
      refine WQ_code ?_
      refine WC_F rfl ?_
      refine WC_skip ?_
      refine WQ_code ?_
      refine WC_region ?_
      refine WL_val rfl rfl rfl (R_move rfl rfl) ?_
      refine WL_val rfl rfl rfl (R_mulR (r := 0) rfl rfl rfl (rfl)) ?_
      refine WL_val rfl rfl rfl (R_move rfl rfl) ?_
      refine WL_val rfl rfl rfl (R_addR (r := ((1 : Nat) : Int)) rfl rfl rfl (rfl)) ?_
      refine WL_val rfl rfl rfl (R_move rfl rfl) ?_
      refine WL_val rfl rfl rfl (R_mulR (r := 0) rfl rfl rfl (rfl)) ?_
      refine WL_val rfl rfl rfl (R_move rfl rfl) ?_
      refine WL_val rfl rfl rfl (R_addR (r := ((1 : Nat) : Int)) rfl rfl rfl (rfl)) ?_
      refine WL_val rfl rfl rfl (R_indexAddrAN rfl Tryz.underlying40 Tryz.sizeOf34 rfl rfl (by omega)) ?_
      refine WL_val rfl rfl rfl (R_load rfl sc34 rfl (mmC) rfl) ?_
      refine WL_val rfl rfl rfl (R_move rfl rfl) ?_
      refine WL_do rfl rfl rfl (D_buildSlice rfl si34 rfl rfl rfl) ?_
      rintro _ _ ⟨b4, rfl, rfl⟩
      refine WL_do rfl rfl rfl (D_append rfl si34 rfl (hO1) (plC) rfl (mmC) ((atZ : At _ 0 [_])) (rfl) (rfl) (by omega) (by omega)) ?_
      rintro _ _ ⟨ob5, cap5, tl5, rfl, own5, rfl⟩
      rw [show ivs y.A1 ++ [Value.int .i64 ((y.i : Nat) : Int)] = ivs (y.A1 ++ [((y.i : Nat) : Int)]) from by simp, show y.A1.length + 1 = (y.A1 ++ [((y.i : Nat) : Int)]).length from by simp] at *
      refine WL_val rfl rfl rfl (R_indexAddrAN rfl Tryz.underlying40 Tryz.sizeOf34 rfl rfl (by omega)) ?_
      refine WL_do0 rfl rfl (D_store (vs := [_]) rfl Tryz.sizeOf34 rfl rfl rfl rfl rfl (plC) (by exact Nat.le_of_ble_eq_true rfl)) ?_
      rintro _ _ rfl
      refine WL_nil ?_
      refine WQ_code ?_
      refine WC_region ?_
      refine WL_val rfl rfl rfl (R_move rfl rfl) ?_
      refine WL_val rfl rfl rfl (R_add rfl rfl rfl (by omega)) ?_
      refine WL_val rfl rfl rfl (R_assign rfl rfl) ?_
      refine WL_nil ?_
      refine WQ_nextF (⟨y.i + 1, y.N + 1 + 1, ((y.z.start (y.i : Int)).wait (y.i : Int) ((0 : Nat) : Int) 0 ((1 : Nat) : Int)), m2, y.A0, y.o0, y.c0, y.t0, y.A1 ++ [((y.i : Nat) : Int)], ob5, cap5, tl5, y.A2, y.o2, y.c2, y.t2, y.A3, y.o3, y.c3, y.t3⟩) (⟨by dsimp only; omega, h2, by dsimp only; omega, rfl, hst.2.2.1, by dsimp only; rw [hst.2.2.2, wAt_snoc, if_neg (by decide), List.append_nil]; exact hA0, by dsimp only; rw [hst.2.2.2, wAt_snoc, if_pos (by decide), hA1], by dsimp only; rw [hst.2.2.2, wAt_snoc, if_neg (by decide), List.append_nil]; exact hA2, by dsimp only; rw [hst.2.2.2, wAt_snoc, if_neg (by decide), List.append_nil]; exact hA3, hO0, own5, hO2, hO3⟩) (by dsimp only; omega) leZ (psZ) rfl (pqC)
    · have hst := wk_step hw hy.pk.ps (show y.i < M by omega) (n := 1) (d := 0) (by decide) (by decide)
      refine WC_skip ?_
      refine WQ_code ?_
      refine WC_seq ?_
      refine WC_block ?_
      refine WC_seq ?_
      refine WC_region ?_
      refine WL_val rfl rfl rfl (R_move rfl rfl) ?_
      refine WL_val rfl rfl rfl (R_move rfl rfl) ?_
      refine WL_val rfl rfl rfl (R_conv (r := ((y.i : Nat) : Int)) rfl Tryz.underlying3 Tryz.underlying41 rfl ((show IntKind.u64.wrap _ = _ from w64 (by omega)))) ?_
      refine WL_val rfl rfl rfl (R_shrR (r := ((file / 2 ^ y.i : Nat) : Int)) rfl rfl rfl (by omega) (shrN (s := y.i) (b := 64) (by omega))) ?_
      refine WL_val rfl rfl rfl (R_andR (r := ((1 : Nat) : Int)) rfl rfl rfl (en)) ?_
      refine WL_val rfl rfl rfl (R_conv (r := ((1 : Nat) : Int)) rfl Tryz.underlying27 Tryz.underlying3 rfl (rfl)) ?_
      refine WL_val rfl rfl rfl (R_move rfl rfl) ?_
      refine WL_val rfl rfl rfl (R_move rfl rfl) ?_
      refine WL_val rfl rfl rfl (R_conv (r := ((y.i : Nat) : Int)) rfl Tryz.underlying3 Tryz.underlying41 rfl ((show IntKind.u64.wrap _ = _ from w64 (by omega)))) ?_
      refine WL_val rfl rfl rfl (R_shrR (r := ((dirs / 2 ^ y.i : Nat) : Int)) rfl rfl rfl (by omega) (shrN (s := y.i) (b := 64) (by omega))) ?_
      refine WL_val rfl rfl rfl (R_andR (r := ((0 : Nat) : Int)) rfl rfl rfl (ed)) ?_
      refine WL_val rfl rfl rfl (R_conv (r := ((0 : Nat) : Int)) rfl Tryz.underlying27 Tryz.underlying3 rfl (rfl)) ?_
      refine WL_val rfl rfl rfl (R_assign rfl rfl) ?_
      refine WL_val rfl rfl rfl (R_assign rfl rfl) ?_
      refine WL_nil ?_
      refine WQ_code ?_
      refine WC_seq ?_
      refine WC_seq ?_
      refine WC_region ?_
      refine WL_val rfl rfl rfl (R_move rfl rfl) ?_
      refine WL_val rfl rfl rfl (R_move rfl rfl) ?_
      refine WL_do rfl rfl rfl (D_call (po_start y.m hy (by omega) (y.i : Int)) rfl rfl rfl rfl (pqC)) ?_
      rintro _ _ ⟨_, ⟨m1, rfl, rfl, hp1, h1⟩, rfl⟩
      rw [← hp1]
      refine WL_val rfl rfl rfl (R_neq rfl rfl rfl) ?_
      refine WL_set (s := 79) (v := .bool false) rfl (by exact congrArg Value.bool (decide_eq_false (fun q => q hst.1))) ?_
      refine WL_val rfl rfl rfl (R_move rfl rfl) ?_
      refine WL_val rfl rfl rfl (R_move rfl rfl) ?_
      refine WL_val rfl rfl rfl (R_move rfl rfl) ?_
      refine WL_val rfl rfl rfl (R_move rfl rfl) ?_
      refine WL_do rfl rfl rfl (D_call (lfd_ok _ _) rfl rfl rfl rfl (pqC)) ?_
      rintro _ _ ⟨_, ⟨rfl, rfl⟩, rfl⟩
      refine WL_val rfl rfl rfl (R_move rfl rfl) ?_
      refine WL_do rfl rfl rfl (D_call (po_wait m1 h1 (by omega) (y.i : Int) ((1 : Nat) : Int) 0 ((0 : Nat) : Int)) rfl rfl rfl rfl (pqC)) ?_
      rintro _ _ ⟨_, ⟨m2, rfl, rfl, hp2, h2⟩, rfl⟩
      rw [← hp2]
      refine WL_val rfl rfl rfl (R_neq rfl rfl rfl) ?_
      refine WL_set (s := 87) (v := .bool false) rfl (by exact congrArg Value.bool (decide_eq_false (fun q => q hst.2.1))) ?_
      refine WL_val rfl rfl rfl (R_pickF rfl rfl rfl) ?_
      refine WL_nil ?_
      refine WQ_code ?_
      refine WC_F rfl ?_
      refine WC_skip ?_
      refine WQ_code ?_
      refine WC_region ?_
      refine WL_val rfl rfl rfl (R_move rfl rfl) ?_
      refine WL_val rfl rfl rfl (R_mulR (r := 2) rfl rfl rfl (rfl)) ?_
      refine WL_val rfl rfl rfl (R_move rfl rfl) ?_
      refine WL_val rfl rfl rfl (R_addR (r := ((2 : Nat) : Int)) rfl rfl rfl (rfl)) ?_
      refine WL_val rfl rfl rfl (R_move rfl rfl) ?_
      refine WL_val rfl rfl rfl (R_mulR (r := 2) rfl rfl rfl (rfl)) ?_
      refine WL_val rfl rfl rfl (R_move rfl rfl) ?_
      refine WL_val rfl rfl rfl (R_addR (r := ((2 : Nat) : Int)) rfl rfl rfl (rfl)) ?_
      refine WL_val rfl rfl rfl (R_indexAddrAN rfl Tryz.underlying40 Tryz.sizeOf34 rfl rfl (by omega)) ?_
      refine WL_val rfl rfl rfl (R_load rfl sc34 rfl (mmC) rfl) ?_
      refine WL_val rfl rfl rfl (R_move rfl rfl) ?_
      refine WL_do rfl rfl rfl (D_buildSlice rfl si34 rfl rfl rfl) ?_
      rintro _ _ ⟨b6, rfl, rfl⟩
      refine WL_do rfl rfl rfl (D_append rfl si34 rfl (hO2) (plC) rfl (mmC) ((atZ : At _ 0 [_])) (rfl) (rfl) (by omega) (by omega)) ?_
      rintro _ _ ⟨ob7, cap7, tl7, rfl, own7, rfl⟩
      rw [show ivs y.A2 ++ [Value.int .i64 ((y.i : Nat) : Int)] = ivs (y.A2 ++ [((y.i : Nat) : Int)]) from by simp, show y.A2.length + 1 = (y.A2 ++ [((y.i : Nat) : Int)]).length from by simp] at *
      refine WL_val rfl rfl rfl (R_indexAddrAN rfl Tryz.underlying40 Tryz.sizeOf34 rfl rfl (by omega)) ?_
      refine WL_do0 rfl rfl (D_store (vs := [_]) rfl Tryz.sizeOf34 rfl rfl rfl rfl rfl (plC) (by exact Nat.le_of_ble_eq_true rfl)) ?_
      rintro _ _ rfl
      refine WL_nil ?_
      refine WQ_code ?_
      refine WC_region ?_
      refine WL_val rfl rfl rfl (R_move rfl rfl) ?_
      refine WL_val rfl rfl rfl (R_add rfl rfl rfl (by omega)) ?_
      refine WL_val rfl rfl rfl (R_assign rfl rfl) ?_
      refine WL_nil ?_
      refine WQ_nextF (⟨y.i + 1, y.N + 1 + 1, ((y.z.start (y.i : Int)).wait (y.i : Int) ((1 : Nat) : Int) 0 ((0 : Nat) : Int)), m2, y.A0, y.o0, y.c0, y.t0, y.A1, y.o1, y.c1, y.t1, y.A2 ++ [((y.i : Nat) : Int)], ob7, cap7, tl7, y.A3, y.o3, y.c3, y.t3⟩) (⟨by dsimp only; omega, h2, by dsimp only; omega, rfl, hst.2.2.1, by dsimp only; rw [hst.2.2.2, wAt_snoc, if_neg (by decide), List.append_nil]; exact hA0, by dsimp only; rw [hst.2.2.2, wAt_snoc, if_neg (by decide), List.append_nil]; exact hA1, by dsimp only; rw [hst.2.2.2, wAt_snoc, if_pos (by decide), hA2], by dsimp only; rw [hst.2.2.2, wAt_snoc, if_neg (by decide), List.append_nil]; exact hA3, hO0, hO1, own7, hO3⟩) (by dsimp only; omega) leZ (psZ) rfl (pqC)
    · have hst := wk_step hw hy.pk.ps (show y.i < M by omega) (n := 1) (d := 1) (by decide) (by decide)
      refine WC_skip ?_
      refine WQ_code ?_
      refine WC_seq ?_
      refine WC_block ?_
      refine WC_seq ?_
      refine WC_region ?_
      refine WL_val rfl rfl rfl (R_move rfl rfl) ?_
      refine WL_val rfl rfl rfl (R_move rfl rfl) ?_
      refine WL_val rfl rfl rfl (R_conv (r := ((y.i : Nat) : Int)) rfl Tryz.underlying3 Tryz.underlying41 rfl ((show IntKind.u64.wrap _ = _ from w64 (by omega)))) ?_
      refine WL_val rfl rfl rfl (R_shrR (r := ((file / 2 ^ y.i : Nat) : Int)) rfl rfl rfl (by omega) (shrN (s := y.i) (b := 64) (by omega))) ?_
      refine WL_val rfl rfl rfl (R_andR (r := ((1 : Nat) : Int)) rfl rfl rfl (en)) ?_
      refine WL_val rfl rfl rfl (R_conv (r := ((1 : Nat) : Int)) rfl Tryz.underlying27 Tryz.underlying3 rfl (rfl)) ?_
      refine WL_val rfl rfl rfl (R_move rfl rfl) ?_
      refine WL_val rfl rfl rfl (R_move rfl rfl) ?_
      refine WL_val rfl rfl rfl (R_conv (r := ((y.i : Nat) : Int)) rfl Tryz.underlying3 Tryz.underlying41 rfl ((show IntKind.u64.wrap _ = _ from w64 (by omega)))) ?_
      refine WL_val rfl rfl rfl (R_shrR (r := ((dirs / 2 ^ y.i : Nat) : Int)) rfl rfl rfl (by omega) (shrN (s := y.i) (b := 64) (by omega))) ?_
      refine WL_val rfl rfl rfl (R_andR (r := ((1 : Nat) : Int)) rfl rfl rfl (ed)) ?_
      refine WL_val rfl rfl rfl (R_conv (r := ((1 : Nat) : Int)) rfl Tryz.underlying27 Tryz.underlying3 rfl (rfl)) ?_
      refine WL_val rfl rfl rfl (R_assign rfl rfl) ?_
      refine WL_val rfl rfl rfl (R_assign rfl rfl) ?_
      refine WL_nil ?_
      refine WQ_code ?_
      refine WC_seq ?_
      refine WC_seq ?_
      refine WC_region ?_
      refine WL_val rfl rfl rfl (R_move rfl rfl) ?_
      refine WL_val rfl rfl rfl (R_move rfl rfl) ?_
      refine WL_do rfl rfl rfl (D_call (po_start y.m hy (by omega) (y.i : Int)) rfl rfl rfl rfl (pqC)) ?_
      rintro _ _ ⟨_, ⟨m1, rfl, rfl, hp1, h1⟩, rfl⟩
      rw [← hp1]
      refine WL_val rfl rfl rfl (R_neq rfl rfl rfl) ?_
      refine WL_set (s := 79) (v := .bool false) rfl (by exact congrArg Value.bool (decide_eq_false (fun q => q hst.1))) ?_
      refine WL_val rfl rfl rfl (R_move rfl rfl) ?_
      refine WL_val rfl rfl rfl (R_move rfl rfl) ?_
      refine WL_val rfl rfl rfl (R_move rfl rfl) ?_
      refine WL_val rfl rfl rfl (R_move rfl rfl) ?_
      refine WL_do rfl rfl rfl (D_call (lfd_ok _ _) rfl rfl rfl rfl (pqC)) ?_
      rintro _ _ ⟨_, ⟨rfl, rfl⟩, rfl⟩
      refine WL_val rfl rfl rfl (R_move rfl rfl) ?_
      refine WL_do rfl rfl rfl (D_call (po_wait m1 h1 (by omega) (y.i : Int) ((1 : Nat) : Int) 0 ((1 : Nat) : Int)) rfl rfl rfl rfl (pqC)) ?_
      rintro _ _ ⟨_, ⟨m2, rfl, rfl, hp2, h2⟩, rfl⟩
      rw [← hp2]
      refine WL_val rfl rfl rfl (R_neq rfl rfl rfl) ?_
      refine WL_set (s := 87) (v := .bool false) rfl (by exact congrArg Value.bool (decide_eq_false (fun q => q hst.2.1))) ?_
      refine WL_val rfl rfl rfl (R_pickF rfl rfl rfl) ?_
      refine WL_nil ?_
      refine WQ_code ?_
      refine WC_F rfl ?_
      refine WC_skip ?_
      refine WQ_code ?_
      refine WC_region ?_
      refine WL_val rfl rfl rfl (R_move rfl rfl) ?_
      refine WL_val rfl rfl rfl (R_mulR (r := 2) rfl rfl rfl (rfl)) ?_
      refine WL_val rfl rfl rfl (R_move rfl rfl) ?_
      refine WL_val rfl rfl rfl (R_addR (r := ((3 : Nat) : Int)) rfl rfl rfl (rfl)) ?_
      refine WL_val rfl rfl rfl (R_move rfl rfl) ?_
      refine WL_val rfl rfl rfl (R_mulR (r := 2) rfl rfl rfl (rfl)) ?_
      refine WL_val rfl rfl rfl (R_move rfl rfl) ?_
      refine WL_val rfl rfl rfl (R_addR (r := ((3 : Nat) : Int)) rfl rfl rfl (rfl)) ?_
      refine WL_val rfl rfl rfl (R_indexAddrAN rfl Tryz.underlying40 Tryz.sizeOf34 rfl rfl (by omega)) ?_
      refine WL_val rfl rfl rfl (R_load rfl sc34 rfl (mmC) rfl) ?_
      refine WL_val rfl rfl rfl (R_move rfl rfl) ?_
      refine WL_do rfl rfl rfl (D_buildSlice rfl si34 rfl rfl rfl) ?_
      rintro _ _ ⟨b8, rfl, rfl⟩
      refine WL_do rfl rfl rfl (D_append rfl si34 rfl (hO3) (plC) rfl (mmC) ((atZ : At _ 0 [_])) (rfl) (rfl) (by omega) (by omega)) ?_
      rintro _ _ ⟨ob9, cap9, tl9, rfl, own9, rfl⟩
      rw [show ivs y.A3 ++ [Value.int .i64 ((y.i : Nat) : Int)] = ivs (y.A3 ++ [((y.i : Nat) : Int)]) from by simp, show y.A3.length + 1 = (y.A3 ++ [((y.i : Nat) : Int)]).length from by simp] at *
      refine WL_val rfl rfl rfl (R_indexAddrAN rfl Tryz.underlying40 Tryz.sizeOf34 rfl rfl (by omega)) ?_
      refine WL_do0 rfl rfl (D_store (vs := [_]) rfl Tryz.sizeOf34 rfl rfl rfl rfl rfl (plC) (by exact Nat.le_of_ble_eq_true rfl)) ?_
      rintro _ _ rfl
      refine WL_nil ?_
      refine WQ_code ?_
      refine WC_region ?_
      refine WL_val rfl rfl rfl (R_move rfl rfl) ?_
      refine WL_val rfl rfl rfl (R_add rfl rfl rfl (by omega)) ?_
      refine WL_val rfl rfl rfl (R_assign rfl rfl) ?_
      refine WL_nil ?_
      refine WQ_nextF (⟨y.i + 1, y.N + 1 + 1, ((y.z.start (y.i : Int)).wait (y.i : Int) ((1 : Nat) : Int) 0 ((1 : Nat) : Int)), m2, y.A0, y.o0, y.c0, y.t0, y.A1, y.o1, y.c1, y.t1, y.A2, y.o2, y.c2, y.t2, y.A3 ++ [((y.i : Nat) : Int)], ob9, cap9, tl9⟩) (⟨by dsimp only; omega, h2, by dsimp only; omega, rfl, hst.2.2.1, by dsimp only; rw [hst.2.2.2, wAt_snoc, if_neg (by decide), List.append_nil]; exact hA0, by dsimp only; rw [hst.2.2.2, wAt_snoc, if_neg (by decide), List.append_nil]; exact hA1, by dsimp only; rw [hst.2.2.2, wAt_snoc, if_neg (by decide), List.append_nil]; exact hA2, by dsimp only; rw [hst.2.2.2, wAt_snoc, if_pos (by decide), hA3], hO0, hO1, hO2, own9⟩) (by dsimp only; omega) leZ (psZ) rfl (pqC)
  · have hiM : y.i = M := by omega
    rw [hiM] at hw
    have hall : wkA y.z = y.A0 ++ y.A1 ++ y.A2 ++ y.A3 := by unfold wkA; rw [hA0, hA1, hA2, hA3]
    have hL01 : (y.A0 ++ y.A1).length ≤ 128 := by rw [List.length_append]; omega
    have hL012 : (y.A0 ++ y.A1 ++ y.A2).length ≤ 192 := by rw [List.length_append]; omega
    have halln : (wkA y.z).length ≤ 256 := by rw [hall]; simp only [List.length_append]; omega
    refine WC_none 3 ?_
    refine WC_exit ?_
    refine WQ_code ?_
    refine WC_seq ?_
    refine WC_draw ([⟨some b1, _⟩]) [(0, true), (1, true), (3, true), (4, true), (6, true), (7, true), (9, true), (10, true), (2, false), (5, false), (8, false), (11, false), (12, true)] followsMixed rfl rfl (by kernel_rfl) pqC ?_
    refine WM_val rfl rfl rfl rfl (R_indexAddrA rfl Tryz.underlying40 Tryz.sizeOf34 rfl rfl (by omega)) ?_
    refine WM_val rfl rfl rfl rfl (R_load rfl sc34 rfl (mmC) rfl) ?_
    refine WM_val rfl rfl rfl rfl (R_indexAddrA rfl Tryz.underlying40 Tryz.sizeOf34 rfl rfl (by omega)) ?_
    refine WM_val rfl rfl rfl rfl (R_load rfl sc34 rfl (mmC) rfl) ?_
    refine WM_val rfl rfl rfl rfl (R_indexAddrA rfl Tryz.underlying40 Tryz.sizeOf34 rfl rfl (by omega)) ?_
    refine WM_val rfl rfl rfl rfl (R_load rfl sc34 rfl (mmC) rfl) ?_
    refine WM_val rfl rfl rfl rfl (R_indexAddrA rfl Tryz.underlying40 Tryz.sizeOf34 rfl rfl (by omega)) ?_
    refine WM_val rfl rfl rfl rfl (R_load rfl sc34 rfl (mmC) rfl) ?_
    refine WM_do rfl rfl rfl rfl (D_appendO rfl si34 rfl (Own.empty 1) (plC) rfl hO0 (mmC) (ivs_one _) (by omega) (by omega)) ?_
    rintro _ _ ⟨obA, cA, tA, rfl, ownA, rfl⟩
    refine ⟨⟨_, pqC⟩, ?_⟩
    rw [List.nil_append, Nat.zero_add] at ownA ⊢
    refine WM_do rfl rfl rfl rfl (D_appendO rfl si34 rfl ownA (plC) rfl hO1 (mmC) (ivs_one _) (by omega) (by omega)) ?_
    rintro _ _ ⟨obB, cB, tB, rfl, ownB, rfl⟩
    refine ⟨⟨_, pqC⟩, ?_⟩
    rw [show ivs y.A0 ++ ivs y.A1 = ivs (y.A0 ++ y.A1) from by simp, show y.A0.length + y.A1.length = (y.A0 ++ y.A1).length from by simp only [List.length_append]] at *
    refine WM_do rfl rfl rfl rfl (D_appendO rfl si34 rfl ownB (plC) rfl hO2 (mmC) (ivs_one _) (by omega) (by omega)) ?_
    rintro _ _ ⟨obC, cC, tC, rfl, ownC, rfl⟩
    refine ⟨⟨_, pqC⟩, ?_⟩
    rw [show ivs (y.A0 ++ y.A1) ++ ivs y.A2 = ivs (y.A0 ++ y.A1 ++ y.A2) from by simp, show (y.A0 ++ y.A1).length + y.A2.length = (y.A0 ++ y.A1 ++ y.A2).length from by simp only [List.length_append]] at *
    refine WM_do rfl rfl rfl rfl (D_appendO rfl si34 rfl ownC (plC) rfl hO3 (mmC) (ivs_one _) (by omega) (by omega)) ?_
    rintro _ _ ⟨obD, cD, tD, rfl, ownD, rfl⟩
    refine ⟨⟨_, pqC⟩, ?_⟩
    rw [show ivs (y.A0 ++ y.A1 ++ y.A2) ++ ivs y.A3 = ivs (wkA y.z) from by rw [hall]; simp, show (y.A0 ++ y.A1 ++ y.A2).length + y.A3.length = (wkA y.z).length from by rw [hall]; simp only [List.length_append]] at *
    refine WM_val rfl rfl rfl rfl (R_assign rfl rfl) ?_
    refine WM_nil ?_
    refine WQ_code ?_
    refine WC_seq ?_
    refine WC_region ?_
    refine WL_val rfl rfl rfl (R_assign rfl rfl) ?_
    refine WL_nil ?_
    refine WQ_code ?_
    refine WC_seq ?_
    refine WC_seq ?_
    refine WC_region ?_
    refine WL_val rfl rfl rfl (R_move rfl rfl) ?_
    refine WL_nil ?_
    refine WQ_code ?_
    refine WC_if rfl (fun c2 => ?_) (fun c2 => ?_)
    · have hcl := wk_close hw hy.pk.ps hy.pk.rdy
      have hcn : (y.z.closeL 0 0).length + ((y.z.close 0 0).closeL 1 0).length ≤ 256 := by rw [← List.length_append, hcl.2.2.1]; exact halln
      refine WC_seq ?_
      refine WC_region ?_
      refine WL_val rfl rfl rfl (R_move rfl rfl) ?_
      refine WL_do rfl rfl rfl (D_call (lfd_ok _ _) rfl rfl rfl rfl (pqC)) ?_
      rintro _ _ ⟨_, ⟨rfl, rfl⟩, rfl⟩
      refine WL_do rfl rfl rfl (D_call (close_run y.m hy (by omega) 0 0 (y.z.closeL 0 0) rfl hcl.1) rfl rfl rfl rfl (pqC)) ?_
      rintro _ _ ⟨_, ⟨m3, o3, c3, t3, rfl, w3, rfl, p3, g3⟩, rfl⟩
      rw [← p3]
      refine WL_val rfl rfl rfl (R_move rfl rfl) ?_
      refine WL_val rfl rfl rfl (R_extract rfl rfl rfl) ?_
      refine WL_val rfl rfl rfl (R_extract rfl rfl rfl) ?_
      refine WL_val rfl rfl rfl (R_assign rfl rfl) ?_
      refine WL_val rfl rfl rfl (R_assign rfl rfl) ?_
      refine WL_nil ?_
      refine WQ_code ?_
      refine WC_seq ?_
      refine WC_region ?_
      refine WL_val rfl rfl rfl (R_move rfl rfl) ?_
      refine WL_do rfl rfl rfl (D_call (lfd_ok _ _) rfl rfl rfl rfl (pqC)) ?_
      rintro _ _ ⟨_, ⟨rfl, rfl⟩, rfl⟩
      refine WL_do rfl rfl rfl (D_call (close_run m3 g3 (by omega) 1 0 ((y.z.close 0 0).closeL 1 0) rfl hcl.2.1) rfl rfl rfl rfl (pqC)) ?_
      rintro _ _ ⟨_, ⟨m4, o4, c4, t4, rfl, w4, rfl, p4, g4⟩, rfl⟩
      rw [← p4]
      refine WL_val rfl rfl rfl (R_move rfl rfl) ?_
      refine WL_val rfl rfl rfl (R_extract rfl rfl rfl) ?_
      refine WL_val rfl rfl rfl (R_extract rfl rfl rfl) ?_
      refine WL_val rfl rfl rfl (R_assign rfl rfl) ?_
      refine WL_val rfl rfl rfl (R_assign rfl rfl) ?_
      refine WL_nil ?_
      refine WQ_code ?_
      refine WC_seq ?_
      refine WC_region ?_
      refine WL_val rfl rfl rfl (R_move rfl rfl) ?_
      refine WL_val rfl rfl rfl (R_neq rfl rfl rfl) ?_
      refine WL_set (s := 129) (v := .bool false) rfl (by simp) ?_
      refine WL_val rfl rfl rfl (R_move rfl rfl) ?_
      refine WL_val rfl rfl rfl (R_move rfl rfl) ?_
      refine WL_val rfl rfl rfl (R_move rfl rfl) ?_
      refine WL_do rfl rfl rfl (D_appendO rfl si34 rfl w3 (plC) rfl w4 (mmC) (ivs_one _) (by omega) (by omega)) ?_
      rintro _ _ ⟨obE, cE, tE, rfl, ownE, rfl⟩
      rw [show ivs (y.z.closeL 0 0) ++ ivs ((y.z.close 0 0).closeL 1 0) = ivs (wkA y.z) from by rw [← hcl.2.2.1]; simp, show (y.z.closeL 0 0).length + ((y.z.close 0 0).closeL 1 0).length = (wkA y.z).length from by rw [← hcl.2.2.1, List.length_append]] at *
      refine WL_val rfl rfl rfl (R_move rfl rfl) ?_
      refine WL_val rfl rfl rfl (R_move rfl rfl) ?_
      refine WL_do rfl rfl rfl (D_call (woke_ok (wkA y.z) (by omega) obE cE tE obD cD tD ownE ownD) rfl rfl rfl rfl (pqC)) ?_
      rintro _ _ ⟨_, ⟨rfl, rfl⟩, rfl⟩
      refine WL_val rfl rfl rfl (R_not rfl rfl) ?_
      refine WL_val rfl rfl rfl (R_pickF rfl rfl rfl) ?_
      refine WL_nil ?_
      refine WQ_code ?_
      refine WC_F rfl ?_
      refine WC_skip ?_
      refine WQ_code ?_
      refine WC_seq ?_
      refine WC_seq ?_
      refine WC_region ?_
      refine WL_val rfl rfl rfl (R_assign rfl rfl) ?_
      refine WL_nil ?_
      refine WQ_code ?_
      refine WC_block ?_
      refine WC_loopF (G := Nat) [8, 28, 178, 179, 180, 181, 182, 183, 184, 185, 186, 187] (fun j => j ≤ M) (fun j => [(28, .int .i64 (j : Int))]) (fun j => []) (fun j => M - j) (0) (Nat.zero_le _) leZ (pqC) ?_
      rintro j hj
      refine WC_seq ?_
      refine WC_seq ?_
      refine WC_region ?_
      refine WL_val rfl rfl rfl (R_move rfl rfl) ?_
      refine WL_val rfl rfl rfl (R_move rfl rfl) ?_
      refine WL_val rfl rfl rfl (R_lss rfl rfl rfl) ?_
      refine WL_nil ?_
      refine WQ_code ?_
      refine WC_dec rfl (fun c3 => ?_) (fun c3 => ?_)
      · refine WC_skip ?_
        refine WQ_code ?_
        refine WC_seq ?_
        refine WC_block ?_
        refine WC_seq ?_
        refine WC_region ?_
        refine WL_val rfl rfl rfl (R_move rfl rfl) ?_
        refine WL_val rfl rfl rfl (R_move rfl rfl) ?_
        refine WL_val rfl rfl rfl (R_move rfl rfl) ?_
        refine WL_do rfl rfl rfl (D_call (reason_ok m4 g4 (by omega) (j : Int) 3 (hcl.2.2.2.2 j (by omega))) rfl rfl rfl rfl (pqC)) ?_
        rintro _ _ ⟨_, ⟨rfl, rfl⟩, rfl⟩
        refine WL_val rfl rfl rfl (R_not rfl rfl) ?_
        refine WL_nil ?_
        refine WQ_code ?_
        refine WC_F rfl ?_
        refine WC_skip ?_
        refine WQ_code ?_
        refine WC_region ?_
        refine WL_val rfl rfl rfl (R_move rfl rfl) ?_
        refine WL_val rfl rfl rfl (R_add rfl rfl rfl (by omega)) ?_
        refine WL_val rfl rfl rfl (R_assign rfl rfl) ?_
        refine WL_nil ?_
        refine WQ_nextF (j + 1) (by omega) (by omega) leZ (psZ) rfl (pqC)
      · refine WC_exit ?_
        refine WQ_code ?_
        refine WC_seq ?_
        refine WC_region ?_
        refine WL_val rfl rfl rfl (R_move rfl rfl) ?_
        refine WL_do rfl rfl rfl (D_call (po_ready m4 g4 (by omega)) rfl rfl rfl rfl (pqC)) ?_
        rintro _ _ ⟨_, ⟨o8, c8, t8, rfl, w8, rfl⟩, rfl⟩
        rw [hcl.2.2.2.1] at w8 ⊢
        refine WL_val rfl rfl rfl (R_move rfl rfl) ?_
        refine WL_do rfl rfl rfl (D_call (same_ok (wkA y.z) (by omega) o8 c8 t8 obD cD tD w8 ownD) rfl rfl rfl rfl (pqC)) ?_
        rintro _ _ ⟨_, ⟨rfl, rfl⟩, rfl⟩
        refine WL_val rfl rfl rfl (R_move rfl rfl) ?_
        refine WL_do rfl rfl rfl (D_call (known_ok) rfl rfl rfl rfl (pqC)) ?_
        rintro _ _ ⟨_, ⟨rfl, rfl⟩, rfl⟩
        refine WL_val rfl rfl rfl (R_pickT rfl rfl rfl) ?_
        refine WL_val rfl rfl rfl (R_assign rfl rfl) ?_
        refine WL_nil ?_
        refine WQ_code ?_
        refine WC_ret ?_
        refine WQ_ret rfl rfl (.cons (.tmp rfl) .nil) rfl (by
            exact ⟨rfl, rfl⟩) (pqC)
    · have hadv := wk_adv hw hy.pk.ps hy.pk.rdy
      refine WC_seq ?_
      refine WC_region ?_
      refine WL_val rfl rfl rfl (R_assign rfl rfl) ?_
      refine WL_nil ?_
      refine WQ_code ?_
      refine WC_seq ?_
      refine WC_seq ?_
      refine WC_region ?_
      refine WL_val rfl rfl rfl (R_assign rfl rfl) ?_
      refine WL_nil ?_
      refine WQ_code ?_
      refine WC_block ?_
      have hy4 : PoIs y.N (wkZ y.z 4) y.m := by rw [wkZ_4 hw]; exact hy
      refine WC_loopF (G := WkD) [8, 21, 22, 23, 139, 140, 141, 142, 143, 144, 145, 146, 147, 148, 149, 150, 151, 152, 153, 154, 155, 156] (fun d => d.k ≤ 4 ∧ PoIs d.N (wkZ y.z d.k) d.m ∧ d.N + 65 * d.k ≤ y.N + 260 ∧ d.m.p = y.m.p) (fun d => [(21, .int .i64 ((d.k : Int) - 1))]) (fun d => poH (wkZ y.z d.k) d.m) (fun d => d.k) (⟨4, y.N, y.m⟩) (⟨Nat.le_refl _, hy4, Nat.le_refl _, rfl⟩) leZ (pqC) ?_
      rintro d ⟨hdk, hyd, hdn, hdp⟩
      rw [← hdp]
      refine WC_seq ?_
      refine WC_seq ?_
      refine WC_region ?_
      refine WL_val rfl rfl rfl (R_move rfl rfl) ?_
      refine WL_val rfl rfl rfl (R_geq rfl rfl rfl) ?_
      refine WL_nil ?_
      refine WQ_code ?_
      refine WC_dec rfl (fun c4 => ?_) (fun c4 => ?_)
      · have hdd := wk_dead hw (k := d.k) (by omega) (by omega)
        refine WC_skip ?_
        refine WQ_code ?_
        refine WC_seq ?_
        refine WC_block ?_
        refine WC_seq ?_
        refine WC_region ?_
        refine WL_val rfl rfl rfl (R_move rfl rfl) ?_
        refine WL_val rfl rfl rfl (R_move rfl rfl) ?_
        refine WL_val rfl rfl rfl (R_quoR (r := (((d.k - 1) / 2 : Nat) : Int)) rfl rfl rfl (by omega) (wkq (by omega) (by omega))) ?_
        refine WL_do rfl rfl rfl (D_call (lfd_ok _ _) rfl rfl rfl rfl (pqC)) ?_
        rintro _ _ ⟨_, ⟨rfl, rfl⟩, rfl⟩
        refine WL_val rfl rfl rfl (R_move rfl rfl) ?_
        refine WL_val rfl rfl rfl (R_remR (r := (((d.k - 1) % 2 : Nat) : Int)) rfl rfl rfl (by omega) (wkr (by omega) (by omega))) ?_
        refine WL_do rfl rfl rfl (D_call (dead_run d.m hyd (by omega) (((d.k - 1) / 2 : Nat) : Int) 0 (((d.k - 1) % 2 : Nat) : Int) 20 (by decide) [] hdd.2.1 hdd.1) rfl rfl rfl rfl (pqC)) ?_
        rintro _ _ ⟨_, ⟨m5, o5, c5, t5, rfl, w5, rfl, p5, g5⟩, rfl⟩
        rw [hdd.2.2] at g5 ⊢
        rw [← p5]
        refine WL_val rfl rfl rfl (R_move rfl rfl) ?_
        refine WL_val rfl rfl rfl (R_extract rfl rfl rfl) ?_
        refine WL_val rfl rfl rfl (R_extract rfl rfl rfl) ?_
        refine WL_val rfl rfl rfl (R_assign rfl rfl) ?_
        refine WL_val rfl rfl rfl (R_assign rfl rfl) ?_
        refine WL_nil ?_
        refine WQ_code ?_
        refine WC_seq ?_
        refine WC_region ?_
        refine WL_val rfl rfl rfl (R_move rfl rfl) ?_
        refine WL_val rfl rfl rfl (R_move rfl rfl) ?_
        refine WL_noneC 3 ?_
        refine WL_do rfl rfl rfl (D_call (woke_none o5 c5 t5 w5) rfl rfl rfl rfl (pqC)) ?_
        rintro _ _ ⟨_, ⟨rfl, rfl⟩, rfl⟩
        refine WL_val rfl rfl rfl (R_not rfl rfl) ?_
        refine WL_nil ?_
        refine WQ_code ?_
        refine WC_F rfl ?_
        refine WC_skip ?_
        refine WQ_code ?_
        refine WC_region ?_
        refine WL_val rfl rfl rfl (R_move rfl rfl) ?_
        refine WL_val rfl rfl rfl (R_subR (r := (((d.k - 1 : Nat) : Int) - 1)) rfl rfl rfl (by rw [IntWalk.i64_in _ (by omega)]; omega)) ?_
        refine WL_val rfl rfl rfl (R_assign rfl rfl) ?_
        refine WL_nil ?_
        refine WQ_nextF (⟨d.k - 1, d.N + 65, m5⟩) (⟨by dsimp only; omega, g5, by dsimp only; omega, rfl⟩) (by dsimp only; omega) leZ (psZ) rfl (pqC)
      · have hk0 : d.k = 0 := by omega
        rw [hk0] at hyd
        refine WC_exit ?_
        refine WQ_code ?_
        refine WC_seq ?_
        refine WC_region ?_
        refine WL_val rfl rfl rfl (R_move rfl rfl) ?_
        refine WL_do rfl rfl rfl (D_call (adv_run d.m hyd (by omega) 19 (by decide) [] hadv.2.1 hadv.1 [] rfl) rfl rfl rfl rfl (pqC)) ?_
        rintro _ _ ⟨_, ⟨m6, o6, c6, t6, rfl, w6, rfl, p6, g6⟩, rfl⟩
        have g6 : PoIs _ (wkY y.z) m6 := g6
        rw [← p6]
        refine WL_val rfl rfl rfl (R_move rfl rfl) ?_
        refine WL_val rfl rfl rfl (R_extract rfl rfl rfl) ?_
        refine WL_val rfl rfl rfl (R_extract rfl rfl rfl) ?_
        refine WL_val rfl rfl rfl (R_assign rfl rfl) ?_
        refine WL_val rfl rfl rfl (R_assign rfl rfl) ?_
        refine WL_nil ?_
        refine WQ_code ?_
        refine WC_seq ?_
        refine WC_region ?_
        refine WL_val rfl rfl rfl (R_move rfl rfl) ?_
        refine WL_do rfl rfl rfl (D_call (adv_run m6 g6 (by omega) 20 (by decide) wkL hadv.2.2.2.1 hadv.2.2.1 (wkA y.z) hadv.2.2.2.2.1) rfl rfl rfl rfl (pqC)) ?_
        rintro _ _ ⟨_, ⟨m7, o7, c7, t7, rfl, w7, rfl, p7, g7⟩, rfl⟩
        have g7 : PoIs _ (wkE y.z) m7 := g7
        rw [← p7]
        refine WL_val rfl rfl rfl (R_move rfl rfl) ?_
        refine WL_val rfl rfl rfl (R_extract rfl rfl rfl) ?_
        refine WL_val rfl rfl rfl (R_extract rfl rfl rfl) ?_
        refine WL_val rfl rfl rfl (R_assign rfl rfl) ?_
        refine WL_val rfl rfl rfl (R_assign rfl rfl) ?_
        refine WL_nil ?_
        refine WQ_code ?_
        refine WC_seq ?_
        refine WC_region ?_
        refine WL_val rfl rfl rfl (R_move rfl rfl) ?_
        refine WL_val rfl rfl rfl (R_move rfl rfl) ?_
        refine WL_noneC 3 ?_
        refine WL_do rfl rfl rfl (D_call (woke_none o6 c6 t6 w6) rfl rfl rfl rfl (pqC)) ?_
        rintro _ _ ⟨_, ⟨rfl, rfl⟩, rfl⟩
        refine WL_val rfl rfl rfl (R_not rfl rfl) ?_
        refine WL_val rfl rfl rfl (R_move rfl rfl) ?_
        refine WL_val rfl rfl rfl (R_move rfl rfl) ?_
        refine WL_val rfl rfl rfl (R_move rfl rfl) ?_
        refine WL_val rfl rfl rfl (R_move rfl rfl) ?_
        refine WL_do rfl rfl rfl (D_call (woke_ok (wkA y.z) (by omega) o7 c7 t7 obD cD tD w7 ownD) rfl rfl rfl rfl (pqC)) ?_
        rintro _ _ ⟨_, ⟨rfl, rfl⟩, rfl⟩
        refine WL_val rfl rfl rfl (R_not rfl rfl) ?_
        refine WL_val rfl rfl rfl (R_pickF rfl rfl rfl) ?_
        refine WL_nil ?_
        refine WQ_code ?_
        refine WC_F rfl ?_
        refine WC_skip ?_
        refine WQ_code ?_
        refine WC_seq ?_
        refine WC_seq ?_
        refine WC_region ?_
        refine WL_val rfl rfl rfl (R_assign rfl rfl) ?_
        refine WL_nil ?_
        refine WQ_code ?_
        refine WC_block ?_
        refine WC_loopF (G := Nat) [8, 28, 178, 179, 180, 181, 182, 183, 184, 185, 186, 187] (fun j => j ≤ M) (fun j => [(28, .int .i64 (j : Int))]) (fun j => []) (fun j => M - j) (0) (Nat.zero_le _) leZ (pqC) ?_
        rintro j hj
        refine WC_seq ?_
        refine WC_seq ?_
        refine WC_region ?_
        refine WL_val rfl rfl rfl (R_move rfl rfl) ?_
        refine WL_val rfl rfl rfl (R_move rfl rfl) ?_
        refine WL_val rfl rfl rfl (R_lss rfl rfl rfl) ?_
        refine WL_nil ?_
        refine WQ_code ?_
        refine WC_dec rfl (fun c5 => ?_) (fun c5 => ?_)
        · refine WC_skip ?_
          refine WQ_code ?_
          refine WC_seq ?_
          refine WC_block ?_
          refine WC_seq ?_
          refine WC_region ?_
          refine WL_val rfl rfl rfl (R_move rfl rfl) ?_
          refine WL_val rfl rfl rfl (R_move rfl rfl) ?_
          refine WL_val rfl rfl rfl (R_move rfl rfl) ?_
          refine WL_do rfl rfl rfl (D_call (reason_ok m7 g7 (by omega) (j : Int) 2 (hadv.2.2.2.2.2.2 j (by omega))) rfl rfl rfl rfl (pqC)) ?_
          rintro _ _ ⟨_, ⟨rfl, rfl⟩, rfl⟩
          refine WL_val rfl rfl rfl (R_not rfl rfl) ?_
          refine WL_nil ?_
          refine WQ_code ?_
          refine WC_F rfl ?_
          refine WC_skip ?_
          refine WQ_code ?_
          refine WC_region ?_
          refine WL_val rfl rfl rfl (R_move rfl rfl) ?_
          refine WL_val rfl rfl rfl (R_add rfl rfl rfl (by omega)) ?_
          refine WL_val rfl rfl rfl (R_assign rfl rfl) ?_
          refine WL_nil ?_
          refine WQ_nextF (j + 1) (by omega) (by omega) leZ (psZ) rfl (pqC)
        · refine WC_exit ?_
          refine WQ_code ?_
          refine WC_seq ?_
          refine WC_region ?_
          refine WL_val rfl rfl rfl (R_move rfl rfl) ?_
          refine WL_do rfl rfl rfl (D_call (po_ready m7 g7 (by omega)) rfl rfl rfl rfl (pqC)) ?_
          rintro _ _ ⟨_, ⟨o8, c8, t8, rfl, w8, rfl⟩, rfl⟩
          rw [hadv.2.2.2.2.2.1] at w8 ⊢
          refine WL_val rfl rfl rfl (R_move rfl rfl) ?_
          refine WL_do rfl rfl rfl (D_call (same_ok (wkA y.z) (by omega) o8 c8 t8 obD cD tD w8 ownD) rfl rfl rfl rfl (pqC)) ?_
          rintro _ _ ⟨_, ⟨rfl, rfl⟩, rfl⟩
          refine WL_val rfl rfl rfl (R_move rfl rfl) ?_
          refine WL_do rfl rfl rfl (D_call (known_ok) rfl rfl rfl rfl (pqC)) ?_
          rintro _ _ ⟨_, ⟨rfl, rfl⟩, rfl⟩
          refine WL_val rfl rfl rfl (R_pickT rfl rfl rfl) ?_
          refine WL_val rfl rfl rfl (R_assign rfl rfl) ?_
          refine WL_nil ?_
          refine WQ_code ?_
          refine WC_ret ?_
          refine WQ_ret rfl rfl (.cons (.tmp rfl) .nil) rfl (by
              exact ⟨rfl, rfl⟩) (pqC)
end Go.Proofs.YtbkdebnkoidicaaGreat
end
