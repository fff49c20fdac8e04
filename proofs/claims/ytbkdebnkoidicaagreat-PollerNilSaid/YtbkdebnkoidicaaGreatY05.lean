/-
  Chapter 11 (poller), part Nil: contracts of functions that the laws call, each for the heap it names.
-/
import Derived.Test.YtbkdebnkoidicaaGreatY04
import Derived.Test.YtbkdebnkoidicaaGreatRows
section
set_option linter.unusedVariables false
set_option maxRecDepth 20000
set_option maxHeartbeats 4000000
namespace Go.Proofs.YtbkdebnkoidicaaGreat
theorem own_rep (b k : Nat) (h : k ≤ 64) : Own (some b) (List.replicate k (0 : Int)).length k 1 (ivs (List.replicate k 0)) [] := by
  have e : (List.replicate k (0 : Int)).length = k := List.length_replicate
  refine ⟨?_, ?_, by rw [e]; exact Nat.le_refl _, by omega, fun e => by cases e⟩
  · rw [fm_length encI1]
  · rw [fm_length encI1, e]; rfl
theorem clsT_no {T : List Slt.Pl} {n g : Int} (h : ¬ (getT T n g).2 = 0) : clsT T n g = T := by
  unfold clsT
  unfold getT at h
  cases hq : tbAt T n g with
  | none => rfl
  | some q => rw [hq] at h; exact absurd rfl h
theorem po_new (k now : Nat) (h1 : 1 ≤ k) (h2 : k ≤ 64) (h3 : now < 18446744073709551615) : Spec Tryz.prog 9 [.int .i64 (k : Int), .int .u64 (now : Int)] [] (fun x H' => ∃ m : PoM, x = .tuple #[ptrH m.p, .int .i64 0] ∧ H' = poH (newS k now) m ∧ PoIs 0 (newS k now) m) := by
  refine Spec.of (E := [(0, .int .i64 (k : Int)), (1, .int .u64 (now : Int))]) Tryz.func9 rfl (by kernel_rfl) Tryz.ntmps9 rfl rfl (fun w => ?_)
  refine WC_seq ?_
  refine WC_region ?_
  refine WL_val rfl rfl rfl (R_assign rfl rfl) ?_
  refine WL_val rfl rfl rfl (R_assign rfl rfl) ?_
  refine WL_nil ?_
  refine WQ_code ?_
  refine WC_seq ?_
  refine WC_region ?_
  refine WL_val rfl rfl rfl (R_move rfl rfl) ?_
  refine WL_do rfl rfl rfl (D_call (p_new k h1 h2) rfl rfl rfl rfl (pqC)) ?_
  rintro _ _ ⟨_, ⟨l0, rfl, rfl, hl0⟩, rfl⟩
  refine WL_val rfl rfl rfl (R_move rfl rfl) ?_
  refine WL_val rfl rfl rfl (R_extract rfl rfl rfl) ?_
  refine WL_val rfl rfl rfl (R_extract rfl rfl rfl) ?_
  refine WL_val rfl rfl rfl (R_assign rfl rfl) ?_
  refine WL_val rfl rfl rfl (R_assign rfl rfl) ?_
  refine WL_nil ?_
  refine WQ_code ?_
  refine WC_seq ?_
  refine WC_region ?_
  refine WL_val rfl rfl rfl (R_move rfl rfl) ?_
  refine WL_do rfl rfl rfl (D_call (d_new now h3) rfl rfl rfl rfl (pqC)) ?_
  rintro _ _ ⟨_, ⟨d0, rfl, rfl, hdn0, hd0⟩, rfl⟩
  refine WL_val rfl rfl rfl (R_move rfl rfl) ?_
  refine WL_val rfl rfl rfl (R_extract rfl rfl rfl) ?_
  refine WL_val rfl rfl rfl (R_extract rfl rfl rfl) ?_
  refine WL_val rfl rfl rfl (R_assign rfl rfl) ?_
  refine WL_val rfl rfl rfl (R_assign rfl rfl) ?_
  refine WL_nil ?_
  refine WQ_code ?_
  refine WC_seq ?_
  refine WC_region ?_
  refine WL_do rfl rfl rfl (D_call (s_new) rfl rfl rfl rfl (pqC)) ?_
  rintro _ _ ⟨_, ⟨tb0, rfl, rfl⟩, rfl⟩
  refine WL_val rfl rfl rfl (R_move rfl rfl) ?_
  refine WL_val rfl rfl rfl (R_extract rfl rfl rfl) ?_
  refine WL_val rfl rfl rfl (R_extract rfl rfl rfl) ?_
  refine WL_val rfl rfl rfl (R_assign rfl rfl) ?_
  refine WL_val rfl rfl rfl (R_assign rfl rfl) ?_
  refine WL_nil ?_
  refine WQ_code ?_
  refine WC_seq ?_
  refine WC_seq ?_
  refine WC_region ?_
  refine WL_val rfl rfl rfl (R_move rfl rfl) ?_
  refine WL_val rfl rfl rfl (R_neq rfl rfl rfl) ?_
  refine WL_val rfl rfl rfl (R_move rfl rfl) ?_
  refine WL_set (s := 28) (v := .bool false) rfl (by simp) ?_
  refine WL_val rfl rfl rfl (R_move rfl rfl) ?_
  refine WL_val rfl rfl rfl (R_neq rfl rfl rfl) ?_
  refine WL_set (s := 30) (v := .bool false) rfl (by simp) ?_
  refine WL_val rfl rfl rfl (R_pickF rfl rfl rfl) ?_
  refine WL_nil ?_
  refine WQ_code ?_
  refine WC_F rfl ?_
  refine WC_skip ?_
  refine WQ_code ?_
  refine WC_seq ?_
  refine WC_region ?_
  refine WL_val rfl rfl rfl (R_move rfl rfl) ?_
  refine WL_val rfl rfl rfl (R_move rfl rfl) ?_
  refine WL_val rfl rfl rfl (R_move rfl rfl) ?_
  refine WL_val rfl rfl rfl (R_move rfl rfl) ?_
  refine WL_do rfl rfl rfl (D_make (n := k) rfl si90 rfl rfl (by omega) (by omega)) ?_
  rintro _ _ ⟨b1, rfl, rfl⟩
  rw [show (List.replicate k [Value.int .i64 0]).flatten = ivs (List.replicate k 0) ++ [] from by rw [List.append_nil]; exact fm_rep (enc := encI) 0 k]
  have hlr : (List.replicate k (0 : Int)).length = k := List.length_replicate
  refine WL_val rfl rfl rfl (R_build rfl zv92 pl92 rfl rfl) ?_
  refine WL_do rfl rfl rfl (D_box (cs := [_, _, _, _]) rfl rfl rfl) ?_
  rintro _ _ ⟨b2, rfl, rfl⟩
  refine WL_val rfl rfl rfl (R_assign rfl rfl) ?_
  refine WL_val rfl rfl rfl (R_assign rfl rfl) ?_
  refine WL_nil ?_
  refine WQ_code ?_
  refine WC_ret ?_
  refine WQ_ret rfl rfl (.cons (.tmp rfl) (.cons (.tmp rfl) .nil)) rfl (by
      have hH : (⟨some b2, cl [ptrH tb0.p, ptrH d0.p, ptrQ l0.p, .slice (some ⟨b1, 0, none⟩) k k] 92⟩ :: ⟨some b1, cl (ivs (List.replicate k 0) ++ []) 45⟩ :: (TBH tb0 (Slt.freshT 128) ++ (DLH now d0 ++ PKH l0)) : Heap) = poH (newS k now) ⟨b2, tb0, d0, l0, b1, k, []⟩ := by unfold newS; dsimp only [poH, poE]; rw [hlr]
      exact ⟨⟨b2, tb0, d0, l0, b1, k, []⟩, rfl, hH, ⟨TbOk.new, hd0, by rw [hdn0]; exact Nat.le_refl 0, hl0, rfl, by (show 1 ≤ (List.replicate k (0 : Int)).length); rw [hlr]; exact h1, own_rep b1 k h2⟩⟩) (pqC)
theorem po_close {N : Nat} {z : PoS} (m : PoM) (h : PoIs N z m) (hN : N ≤ 700000) (n g : Int) : Spec Tryz.prog 12 [ptrH m.p, .agg #[.int .i64 n, .int .i64 g]] (poH z m) (fun x H' => ∃ (m' : PoM) (ob : Option Nat) (c : Nat) (tl : List Value), x = .tuple #[slV ob (z.closeL n g).length c, .int .i64 (getT z.T n g).2] ∧ Own ob (z.closeL n g).length c 1 (ivs (z.closeL n g)) tl ∧ H' = ⟨ob, cl (ivs (z.closeL n g) ++ tl) 3⟩ :: poH (z.close n g) m' ∧ m'.p = m.p ∧ PoIs (N + 130) (z.close n g) m') := by
  by_cases he : (getT z.T n g).2 = 0
  · obtain ⟨hn1, hn2, _⟩ := getT_ok h.tb he
    have e8 : z.closeL n g = (z.cls n g).s.waiting (n, 0) ++ ((z.cls n g).all (n, 0) 3).s.waiting (n, 1) := if_pos he
    have e9 : z.close n g = ((z.cls n g).all (n, 0) 3).all (n, 1) 3 := if_pos he
    rw [e8, e9]
    have hdn := h.dn
    refine Spec.of (E := [(0, ptrH m.p), (1, .agg #[.int .i64 n, .int .i64 g])]) Tryz.func12 rfl (by kernel_rfl) Tryz.ntmps12 rfl rfl (fun w => ?_)
    refine WC_seq ?_
    refine WC_region ?_
    refine WL_do rfl rfl rfl (D_box (cs := [_, _]) rfl rfl rfl) ?_
    rintro _ _ ⟨b1, rfl, rfl⟩
    refine WL_val rfl rfl rfl (R_assign rfl rfl) ?_
    refine WL_val rfl rfl rfl (R_assign rfl rfl) ?_
    refine WL_nil ?_
    refine WQ_code ?_
    refine WC_seq ?_
    refine WC_seq ?_
    refine WC_region ?_
    refine WL_val rfl rfl rfl (R_move rfl rfl) ?_
    refine WL_do rfl rfl rfl (D_call (po_zero z.R.length m) rfl rfl rfl rfl (pqC)) ?_
    rintro _ _ ⟨_, ⟨rfl, rfl⟩, rfl⟩
    refine WL_nil ?_
    refine WQ_code ?_
    refine WC_F rfl ?_
    refine WC_skip ?_
    refine WQ_code ?_
    refine WC_seq ?_
    refine WC_seq ?_
    refine WC_draw ([⟨some b1, _⟩, ⟨some m.p, _⟩]) [(0, true), (1, true), (2, true), (3, true), (4, true), (5, false), (6, true), (7, true), (8, true), (9, true), (10, true)] followsMixed rfl rfl (by kernel_rfl) pqC ?_
    refine WM_val rfl rfl rfl rfl (R_move rfl rfl) ?_
    refine WM_val rfl rfl rfl rfl (R_nilCheck rfl rfl) ?_
    refine WM_val rfl rfl rfl rfl (R_fieldAddr rfl fa92_0 rfl) ?_
    refine WM_val rfl rfl rfl rfl (R_load rfl sc87 rfl (mmC) rfl) ?_
    refine WM_val rfl rfl rfl rfl (R_loadA (vs := [_, _]) rfl ag30 rfl (mmC) rfl (atZ)) ?_
    refine WM_do rfl rfl rfl rfl (D_call (s_close m.tb h.tb (by omega) n g) rfl rfl rfl rfl (pqC)) ?_
    rintro _ _ ⟨_, ⟨rfl, rfl⟩, rfl⟩
    refine ⟨⟨_, pqC⟩, ?_⟩
    rw [he]
    refine WM_val rfl rfl rfl rfl (R_move rfl rfl) ?_
    refine WM_val rfl rfl rfl rfl (R_extract rfl rfl rfl) ?_
    refine WM_val rfl rfl rfl rfl (R_extract rfl rfl rfl) ?_
    refine WM_val rfl rfl rfl rfl (R_assign rfl rfl) ?_
    refine WM_val rfl rfl rfl rfl (R_assign rfl rfl) ?_
    refine WM_nil ?_
    refine WQ_code ?_
    refine WC_seq ?_
    refine WC_region ?_
    refine WL_val rfl rfl rfl (R_move rfl rfl) ?_
    refine WL_val rfl rfl rfl (R_neq rfl rfl rfl) ?_
    refine WL_nil ?_
    refine WQ_code ?_
    refine WC_dF rfl (by simp) ?_
    refine WC_skip ?_
    refine WQ_code ?_
    refine WC_seq ?_
    refine WC_draw ([⟨some b1, _⟩, ⟨some m.p, _⟩]) [(0, true), (1, true), (2, true), (3, true), (4, true), (5, true), (6, false)] followsMixed rfl rfl (by kernel_rfl) pqC ?_
    refine WM_val rfl rfl rfl rfl (R_move rfl rfl) ?_
    refine WM_val rfl rfl rfl rfl (R_nilCheck rfl rfl) ?_
    refine WM_val rfl rfl rfl rfl (R_fieldAddr rfl fa92_1 rfl) ?_
    refine WM_val rfl rfl rfl rfl (R_load rfl sc88 rfl (mmC) rfl) ?_
    refine WM_val rfl rfl rfl rfl (R_fieldAddr rfl fa30_0 rfl) ?_
    refine WM_val rfl rfl rfl rfl (R_load rfl sc3 rfl (mmC) rfl) ?_
    refine WM_do rfl rfl rfl rfl (D_call (d_clear m.d h.di n hn1 hn2 (by omega)) rfl rfl rfl rfl (pqC)) ?_
    rintro _ _ ⟨_, ⟨d', rfl, rfl, hdp, hdd, hd'⟩, rfl⟩
    refine ⟨⟨_, pqC⟩, ?_⟩
    simp only [poE]
    rw [← hdp]
    have h2 : PoIs (N + 2) (z.cls n g) { m with d := d' } := (h.T_ (M := N + 2) (by omega) (h.tb.mono (by omega) |>.cls n g)).ends (Nat.le_refl _) hd' (by omega)
    refine WM_nil ?_
    refine WQ_code ?_
    refine WC_seq ?_
    refine WC_region ?_
    refine WL_val rfl rfl rfl (R_move rfl rfl) ?_
    refine WL_val rfl rfl rfl (R_fieldAddr rfl fa30_0 rfl) ?_
    refine WL_val rfl rfl rfl (R_load rfl sc3 rfl (mmC) rfl) ?_
    refine WL_val rfl rfl rfl (R_build rfl zv108 pl108 rfl rfl) ?_
    refine WL_do rfl rfl rfl (D_call (po_all { m with d := d' } h2 (by omega) (n, 0) 3) rfl rfl rfl rfl (pqC)) ?_
    rintro _ _ ⟨_, ⟨m2, o2, c2, tl2, rfl, own2, rfl, hm2, h3⟩, rfl⟩
    have pm2 : m2.p = m.p := hm2
    rw [← pm2]
    have hw1 : ((z.cls n g).s.waiting (n, 0)).length ≤ 64 := waiting_len h.pk.ps (n, 0)
    have hw2 : (((z.cls n g).all (n, 0) 3).s.waiting (n, 1)).length ≤ 64 := waiting_len h3.pk.ps (n, 1)
    refine WL_val rfl rfl rfl (R_assign rfl rfl) ?_
    refine WL_nil ?_
    refine WQ_code ?_
    refine WC_seq ?_
    refine WC_region ?_
    refine WL_val rfl rfl rfl (R_move rfl rfl) ?_
    refine WL_val rfl rfl rfl (R_move rfl rfl) ?_
    refine WL_val rfl rfl rfl (R_fieldAddr rfl fa30_0 rfl) ?_
    refine WL_val rfl rfl rfl (R_load rfl sc3 rfl (mmC) rfl) ?_
    refine WL_val rfl rfl rfl (R_build rfl zv108 pl108 rfl rfl) ?_
    refine WL_do rfl rfl rfl (D_call (po_all m2 h3 (by omega) (n, 1) 3) rfl rfl rfl rfl (pqC)) ?_
    rintro _ _ ⟨_, ⟨m4, o4, c4, tl4, rfl, own4, rfl, hm4, h5⟩, rfl⟩
    refine WL_do rfl rfl rfl (D_appendO rfl si34 rfl own2 plC rfl own4 mmC (ivs_1 _) (by omega) (by omega)) ?_
    rintro _ _ ⟨o5, c5, tl5, rfl, own5, rfl⟩
    rw [ivs_app, ← List.length_append] at own5
    rw [ivs_app, ← List.length_append]
    refine WL_val rfl rfl rfl (R_assign rfl rfl) ?_
    refine WL_val rfl rfl rfl (R_assign rfl rfl) ?_
    refine WL_nil ?_
    refine WQ_code ?_
    refine WC_ret ?_
    refine WQ_ret rfl rfl (.cons (.tmp rfl) (.cons (.tmp rfl) .nil)) rfl (by
        exact ⟨m4, o5, c5, tl5, by first | rfl | (rw [he]; rfl), own5, rfl, hm4, h5.mono (by omega)⟩) (pqC)
  · have e8 : z.closeL n g = [] := if_neg he
    have e9 : z.close n g = z := if_neg he
    rw [e8, e9]
    refine Spec.of (E := [(0, ptrH m.p), (1, .agg #[.int .i64 n, .int .i64 g])]) Tryz.func12 rfl (by kernel_rfl) Tryz.ntmps12 rfl rfl (fun w => ?_)
    refine WC_seq ?_
    refine WC_region ?_
    refine WL_do rfl rfl rfl (D_box (cs := [_, _]) rfl rfl rfl) ?_
    rintro _ _ ⟨b1, rfl, rfl⟩
    refine WL_val rfl rfl rfl (R_assign rfl rfl) ?_
    refine WL_val rfl rfl rfl (R_assign rfl rfl) ?_
    refine WL_nil ?_
    refine WQ_code ?_
    refine WC_seq ?_
    refine WC_seq ?_
    refine WC_region ?_
    refine WL_val rfl rfl rfl (R_move rfl rfl) ?_
    refine WL_do rfl rfl rfl (D_call (po_zero z.R.length m) rfl rfl rfl rfl (pqC)) ?_
    rintro _ _ ⟨_, ⟨rfl, rfl⟩, rfl⟩
    refine WL_nil ?_
    refine WQ_code ?_
    refine WC_F rfl ?_
    refine WC_skip ?_
    refine WQ_code ?_
    refine WC_seq ?_
    refine WC_seq ?_
    refine WC_draw ([⟨some b1, _⟩, ⟨some m.p, _⟩]) [(0, true), (1, true), (2, true), (3, true), (4, true), (5, false), (6, true), (7, true), (8, true), (9, true), (10, true)] followsMixed rfl rfl (by kernel_rfl) pqC ?_
    refine WM_val rfl rfl rfl rfl (R_move rfl rfl) ?_
    refine WM_val rfl rfl rfl rfl (R_nilCheck rfl rfl) ?_
    refine WM_val rfl rfl rfl rfl (R_fieldAddr rfl fa92_0 rfl) ?_
    refine WM_val rfl rfl rfl rfl (R_load rfl sc87 rfl (mmC) rfl) ?_
    refine WM_val rfl rfl rfl rfl (R_loadA (vs := [_, _]) rfl ag30 rfl (mmC) rfl (atZ)) ?_
    refine WM_do rfl rfl rfl rfl (D_call (s_close m.tb h.tb (by omega) n g) rfl rfl rfl rfl (pqC)) ?_
    rintro _ _ ⟨_, ⟨rfl, rfl⟩, rfl⟩
    refine ⟨⟨_, pqC⟩, ?_⟩
    have e7 : clsT z.T n g = z.T := clsT_no he
    rw [e7]
    refine WM_val rfl rfl rfl rfl (R_move rfl rfl) ?_
    refine WM_val rfl rfl rfl rfl (R_extract rfl rfl rfl) ?_
    refine WM_val rfl rfl rfl rfl (R_extract rfl rfl rfl) ?_
    refine WM_val rfl rfl rfl rfl (R_assign rfl rfl) ?_
    refine WM_val rfl rfl rfl rfl (R_assign rfl rfl) ?_
    refine WM_nil ?_
    refine WQ_code ?_
    refine WC_seq ?_
    refine WC_region ?_
    refine WL_val rfl rfl rfl (R_move rfl rfl) ?_
    refine WL_val rfl rfl rfl (R_neq rfl rfl rfl) ?_
    refine WL_nil ?_
    refine WQ_code ?_
    refine WC_dT rfl (by exact he) ?_
    refine WC_seq ?_
    refine WC_region ?_
    refine WL_val rfl rfl rfl (R_move rfl rfl) ?_
    refine WL_val rfl rfl rfl (R_assign rfl rfl) ?_
    refine WL_val rfl rfl rfl (R_assign rfl rfl) ?_
    refine WL_nil ?_
    refine WQ_code ?_
    refine WC_ret ?_
    refine WQ_none 3 ?_
    refine WQ_ret rfl rfl (.cons (.tmp rfl) (.cons (.tmp rfl) .nil)) rfl (by
        exact ⟨m, none, 0, [], rfl, Own.empty 1, rfl, rfl, h.mono (by omega)⟩) (pqC)
theorem po_dead {N : Nat} {z : PoS} (m : PoM) (h : PoIs N z m) (hN : N ≤ 700000) (n g dir : Int) (k : Nat) (hk : k ≤ 18446744073709551615) : Spec Tryz.prog 17 [ptrH m.p, .agg #[.int .i64 n, .int .i64 g], .int .i64 dir, .int .u64 (k : Int)] (poH z m) (fun x H' => ∃ (m' : PoM) (ob : Option Nat) (c : Nat) (tl : List Value), x = .tuple #[slV ob (z.deadL n g dir k).length c, .int .i64 (z.spE n g dir)] ∧ Own ob (z.deadL n g dir k).length c 1 (ivs (z.deadL n g dir k)) tl ∧ H' = ⟨ob, cl (ivs (z.deadL n g dir k) ++ tl) 3⟩ :: poH (z.dead n g dir k) m' ∧ m'.p = m.p ∧ PoIs (N + 65) (z.dead n g dir k) m') := by
  by_cases he : z.spE n g dir = 0
  · obtain ⟨hv, hsp⟩ := spE_vld h he
    have hdn := h.dn
    have e8 : z.deadL n g dir k = if k ≤ z.now then z.s.waiting (n, dir) else [] := if_pos he
    have e9 : z.dead n g dir k = if k ≤ z.now then { z with f := updF z.f (plS (n, dir)) k }.all (n, dir) 2 else { z with f := updF z.f (plS (n, dir)) k } := if_pos he
    rw [e8, e9]
    refine Spec.of (E := [(0, ptrH m.p), (1, .agg #[.int .i64 n, .int .i64 g]), (2, .int .i64 dir), (3, .int .u64 (k : Int))]) Tryz.func17 rfl (by kernel_rfl) Tryz.ntmps17 rfl rfl (fun w => ?_)
    refine WC_seq ?_
    refine WC_region ?_
    refine WL_do rfl rfl rfl (D_box (cs := [_, _]) rfl rfl rfl) ?_
    rintro _ _ ⟨b1, rfl, rfl⟩
    refine WL_val rfl rfl rfl (R_assign rfl rfl) ?_
    refine WL_val rfl rfl rfl (R_assign rfl rfl) ?_
    refine WL_nil ?_
    refine WQ_code ?_
    refine WC_seq ?_
    refine WC_region ?_
    refine WL_val rfl rfl rfl (R_move rfl rfl) ?_
    refine WL_val rfl rfl rfl (R_loadA (vs := [_, _]) rfl ag30 rfl (mmC) rfl (atZ)) ?_
    refine WL_val rfl rfl rfl (R_move rfl rfl) ?_
    refine WL_do rfl rfl rfl (D_call (po_spot m h (by omega) n g dir) rfl rfl rfl rfl (pqC)) ?_
    rintro _ _ ⟨_, ⟨rfl, rfl⟩, rfl⟩
    rw [he, hsp]
    refine WL_val rfl rfl rfl (R_move rfl rfl) ?_
    refine WL_val rfl rfl rfl (R_extract rfl rfl rfl) ?_
    refine WL_val rfl rfl rfl (R_extract rfl rfl rfl) ?_
    refine WL_do rfl rfl rfl (D_alloc rfl zv108) ?_
    rintro _ _ ⟨b2, rfl, rfl⟩
    refine WL_do0 rfl rfl (D_store (vs := [_, _]) rfl Tryz.sizeOf108 rfl rfl rfl rfl rfl (plC) (by exact Nat.le_of_ble_eq_true rfl)) ?_
    rintro _ _ rfl
    refine WL_val rfl rfl rfl (R_assign rfl rfl) ?_
    refine WL_nil ?_
    refine WQ_code ?_
    refine WC_seq ?_
    refine WC_seq ?_
    refine WC_region ?_
    refine WL_val rfl rfl rfl (R_move rfl rfl) ?_
    refine WL_val rfl rfl rfl (R_neq rfl rfl rfl) ?_
    refine WL_nil ?_
    refine WQ_code ?_
    refine WC_dF rfl (by simp) ?_
    refine WC_skip ?_
    refine WQ_code ?_
    refine WC_seq ?_
    refine WC_seq ?_
    refine WC_draw ([⟨some b2, _⟩, ⟨some m.p, _⟩]) [(0, true), (1, true), (2, true), (3, true), (4, true), (5, true), (6, false), (7, true), (8, true), (9, true), (10, true), (11, true)] followsMixed rfl rfl (by kernel_rfl) pqC ?_
    refine WM_val rfl rfl rfl rfl (R_move rfl rfl) ?_
    refine WM_val rfl rfl rfl rfl (R_nilCheck rfl rfl) ?_
    refine WM_val rfl rfl rfl rfl (R_fieldAddr rfl fa92_1 rfl) ?_
    refine WM_val rfl rfl rfl rfl (R_load rfl sc88 rfl (mmC) rfl) ?_
    refine WM_val rfl rfl rfl rfl (R_loadA (vs := [_, _]) rfl ag108 rfl (mmC) rfl (atZ)) ?_
    refine WM_val rfl rfl rfl rfl (R_move rfl rfl) ?_
    refine WM_do rfl rfl rfl rfl (D_call (d_set m.d h.di (n, dir) hv k hk (by omega)) rfl rfl rfl rfl (pqC)) ?_
    rintro _ _ ⟨_, ⟨d', rfl, rfl, hdp, hdd, hd'⟩, rfl⟩
    refine ⟨⟨_, pqC⟩, ?_⟩
    simp only [poE]
    rw [← hdp]
    have h2 : PoIs (N + 1) { z with f := updF z.f (plS (n, dir)) k } { m with d := d' } := h.ends (Nat.le_succ N) hd' (by omega)
    refine WM_val rfl rfl rfl rfl (R_move rfl rfl) ?_
    refine WM_val rfl rfl rfl rfl (R_extract rfl rfl rfl) ?_
    refine WM_val rfl rfl rfl rfl (R_extract rfl rfl rfl) ?_
    refine WM_val rfl rfl rfl rfl (R_assign rfl rfl) ?_
    refine WM_val rfl rfl rfl rfl (R_assign rfl rfl) ?_
    refine WM_nil ?_
    refine WQ_code ?_
    refine WC_seq ?_
    refine WC_region ?_
    refine WL_val rfl rfl rfl (R_move rfl rfl) ?_
    refine WL_val rfl rfl rfl (R_notD rfl rfl) ?_
    refine WL_nil ?_
    refine WQ_code ?_
    refine WC_dec rfl (fun c1 => ?_) (fun c1 => ?_)
    · refine WC_none 3 ?_
      refine WC_seq ?_
      refine WC_region ?_
      refine WL_val rfl rfl rfl (R_assign rfl rfl) ?_
      refine WL_val rfl rfl rfl (R_assign rfl rfl) ?_
      refine WL_nil ?_
      refine WQ_code ?_
      refine WC_ret ?_
      refine WQ_ret rfl rfl (.cons (.tmp rfl) (.cons (.tmp rfl) .nil)) rfl (by
          exact ⟨{ m with d := d' }, none, 0, [], by rw [if_neg (by assumption)]; first | rfl | (rw [he]; rfl), by rw [if_neg (by assumption)]; exact Own.empty 1, by rw [if_neg (by assumption), if_neg (by assumption)], rfl, by rw [if_neg (by assumption)]; exact h2.mono (by omega)⟩) (pqC)
    · refine WC_skip ?_
      refine WQ_code ?_
      refine WC_seq ?_
      refine WC_region ?_
      refine WL_val rfl rfl rfl (R_move rfl rfl) ?_
      refine WL_val rfl rfl rfl (R_loadA (vs := [_, _]) rfl ag108 rfl (mmC) rfl (atZ)) ?_
      refine WL_do rfl rfl rfl (D_call (po_all { m with d := d' } h2 (by omega) (n, dir) 2) rfl rfl rfl rfl (pqC)) ?_
      rintro _ _ ⟨_, ⟨m2, o2, c2, tl2, rfl, own2, rfl, hm2, h3⟩, rfl⟩
      refine WL_val rfl rfl rfl (R_assign rfl rfl) ?_
      refine WL_val rfl rfl rfl (R_assign rfl rfl) ?_
      refine WL_nil ?_
      refine WQ_code ?_
      refine WC_ret ?_
      refine WQ_ret rfl rfl (.cons (.tmp rfl) (.cons (.tmp rfl) .nil)) rfl (by
          have hk2 : k ≤ z.now := Decidable.not_not.1 (by assumption)
          have hwl : (z.s.waiting (n, dir)).length ≤ 64 := waiting_len h.pk.ps (n, dir)
          rw [if_pos hk2, if_pos hk2]
          exact ⟨m2, o2, c2, tl2, by first | rfl | (rw [he]; rfl), own2, rfl, hm2, h3.mono (by (show N + 1 + (z.s.waiting (n, dir)).length ≤ _); omega)⟩) (pqC)
  · have e8 : z.deadL n g dir k = [] := if_neg he
    have e9 : z.dead n g dir k = z := if_neg he
    rw [e8, e9]
    refine Spec.of (E := [(0, ptrH m.p), (1, .agg #[.int .i64 n, .int .i64 g]), (2, .int .i64 dir), (3, .int .u64 (k : Int))]) Tryz.func17 rfl (by kernel_rfl) Tryz.ntmps17 rfl rfl (fun w => ?_)
    refine WC_seq ?_
    refine WC_region ?_
    refine WL_do rfl rfl rfl (D_box (cs := [_, _]) rfl rfl rfl) ?_
    rintro _ _ ⟨b1, rfl, rfl⟩
    refine WL_val rfl rfl rfl (R_assign rfl rfl) ?_
    refine WL_val rfl rfl rfl (R_assign rfl rfl) ?_
    refine WL_nil ?_
    refine WQ_code ?_
    refine WC_seq ?_
    refine WC_region ?_
    refine WL_val rfl rfl rfl (R_move rfl rfl) ?_
    refine WL_val rfl rfl rfl (R_loadA (vs := [_, _]) rfl ag30 rfl (mmC) rfl (atZ)) ?_
    refine WL_val rfl rfl rfl (R_move rfl rfl) ?_
    refine WL_do rfl rfl rfl (D_call (po_spot m h (by omega) n g dir) rfl rfl rfl rfl (pqC)) ?_
    rintro _ _ ⟨_, ⟨rfl, rfl⟩, rfl⟩
    refine WL_val rfl rfl rfl (R_move rfl rfl) ?_
    refine WL_val rfl rfl rfl (R_extract rfl rfl rfl) ?_
    refine WL_val rfl rfl rfl (R_extract rfl rfl rfl) ?_
    refine WL_do rfl rfl rfl (D_alloc rfl zv108) ?_
    rintro _ _ ⟨b2, rfl, rfl⟩
    refine WL_do0 rfl rfl (D_store (vs := [_, _]) rfl Tryz.sizeOf108 rfl rfl rfl rfl rfl (plC) (by exact Nat.le_of_ble_eq_true rfl)) ?_
    rintro _ _ rfl
    refine WL_val rfl rfl rfl (R_assign rfl rfl) ?_
    refine WL_nil ?_
    refine WQ_code ?_
    refine WC_seq ?_
    refine WC_seq ?_
    refine WC_region ?_
    refine WL_val rfl rfl rfl (R_move rfl rfl) ?_
    refine WL_val rfl rfl rfl (R_neq rfl rfl rfl) ?_
    refine WL_nil ?_
    refine WQ_code ?_
    refine WC_dT rfl (by exact he) ?_
    refine WC_seq ?_
    refine WC_region ?_
    refine WL_val rfl rfl rfl (R_move rfl rfl) ?_
    refine WL_val rfl rfl rfl (R_assign rfl rfl) ?_
    refine WL_val rfl rfl rfl (R_assign rfl rfl) ?_
    refine WL_nil ?_
    refine WQ_code ?_
    refine WC_ret ?_
    refine WQ_none 3 ?_
    refine WQ_ret rfl rfl (.cons (.tmp rfl) (.cons (.tmp rfl) .nil)) rfl (by
        exact ⟨m, none, 0, [], rfl, Own.empty 1, rfl, rfl, h.mono (by omega)⟩) (pqC)
theorem po_sig {N : Nat} {z : PoS} (m : PoM) (h : PoIs N z m) (hN : N ≤ 700000) (n g dir : Int) : Spec Tryz.prog 24 [ptrH m.p, .agg #[.int .i64 n, .int .i64 g], .int .i64 dir] (poH z m) (fun x H' => ∃ m' : PoM, x = .tuple #[.int .i64 (z.sigR n g dir).1, .int .i64 (z.sigR n g dir).2] ∧ H' = poH (z.sig n g dir) m' ∧ m'.p = m.p ∧ PoIs (N + 1) (z.sig n g dir) m') := by
  by_cases he : z.spE n g dir = 0
  · obtain ⟨hv, hsp⟩ := spE_vld h he
    have e8 : z.sigR n g dir = z.s.wakeR (n, dir) := if_pos he
    have e9 : z.sig n g dir = if (z.s.wakeR (n, dir)).2 = 0 then { z with s := z.s.wake (n, dir), R := z.R.set (z.s.wakeR (n, dir)).1.toNat 1 } else z := by unfold PoS.sig; rw [e8]
    rw [e8, e9]
    refine Spec.of (E := [(0, ptrH m.p), (1, .agg #[.int .i64 n, .int .i64 g]), (2, .int .i64 dir)]) Tryz.func24 rfl (by kernel_rfl) Tryz.ntmps24 rfl rfl (fun w => ?_)
    refine WC_seq ?_
    refine WC_region ?_
    refine WL_do rfl rfl rfl (D_box (cs := [_, _]) rfl rfl rfl) ?_
    rintro _ _ ⟨b1, rfl, rfl⟩
    refine WL_val rfl rfl rfl (R_assign rfl rfl) ?_
    refine WL_val rfl rfl rfl (R_assign rfl rfl) ?_
    refine WL_nil ?_
    refine WQ_code ?_
    refine WC_seq ?_
    refine WC_region ?_
    refine WL_val rfl rfl rfl (R_move rfl rfl) ?_
    refine WL_val rfl rfl rfl (R_loadA (vs := [_, _]) rfl ag30 rfl (mmC) rfl (atZ)) ?_
    refine WL_val rfl rfl rfl (R_move rfl rfl) ?_
    refine WL_do rfl rfl rfl (D_call (po_spot m h (by omega) n g dir) rfl rfl rfl rfl (pqC)) ?_
    rintro _ _ ⟨_, ⟨rfl, rfl⟩, rfl⟩
    rw [he, hsp]
    refine WL_val rfl rfl rfl (R_move rfl rfl) ?_
    refine WL_val rfl rfl rfl (R_extract rfl rfl rfl) ?_
    refine WL_val rfl rfl rfl (R_extract rfl rfl rfl) ?_
    refine WL_do rfl rfl rfl (D_alloc rfl zv108) ?_
    rintro _ _ ⟨b2, rfl, rfl⟩
    refine WL_do0 rfl rfl (D_store (vs := [_, _]) rfl Tryz.sizeOf108 rfl rfl rfl rfl rfl (plC) (by exact Nat.le_of_ble_eq_true rfl)) ?_
    rintro _ _ rfl
    refine WL_val rfl rfl rfl (R_assign rfl rfl) ?_
    refine WL_nil ?_
    refine WQ_code ?_
    refine WC_seq ?_
    refine WC_seq ?_
    refine WC_region ?_
    refine WL_val rfl rfl rfl (R_move rfl rfl) ?_
    refine WL_val rfl rfl rfl (R_neq rfl rfl rfl) ?_
    refine WL_nil ?_
    refine WQ_code ?_
    refine WC_dF rfl (by simp) ?_
    refine WC_skip ?_
    refine WQ_code ?_
    refine WC_seq ?_
    refine WC_draw ([⟨some b2, _⟩, ⟨some m.p, _⟩]) [(0, true), (1, true), (2, true), (3, true), (4, true), (5, false), (6, true), (7, true), (8, true), (9, true), (10, true)] followsMixed rfl rfl (by kernel_rfl) pqC ?_
    refine WM_val rfl rfl rfl rfl (R_move rfl rfl) ?_
    refine WM_val rfl rfl rfl rfl (R_nilCheck rfl rfl) ?_
    refine WM_val rfl rfl rfl rfl (R_fieldAddr rfl fa92_2 rfl) ?_
    refine WM_val rfl rfl rfl rfl (R_load rfl sc89 rfl (mmC) rfl) ?_
    refine WM_val rfl rfl rfl rfl (R_loadA (vs := [_, _]) rfl ag108 rfl (mmC) rfl (atZ)) ?_
    refine WM_do rfl rfl rfl rfl (D_call (p_wake m.l h.pk (by omega) (n, dir)) rfl rfl rfl rfl (pqC)) ?_
    rintro _ _ ⟨_, ⟨l', rfl, rfl, hlp, hl'⟩, rfl⟩
    refine ⟨⟨_, pqC⟩, ?_⟩
    simp only [poE]
    rw [← hlp]
    refine WM_val rfl rfl rfl rfl (R_move rfl rfl) ?_
    refine WM_val rfl rfl rfl rfl (R_extract rfl rfl rfl) ?_
    refine WM_val rfl rfl rfl rfl (R_extract rfl rfl rfl) ?_
    refine WM_val rfl rfl rfl rfl (R_assign rfl rfl) ?_
    refine WM_val rfl rfl rfl rfl (R_assign rfl rfl) ?_
    refine WM_nil ?_
    refine WQ_code ?_
    refine WC_seq ?_
    refine WC_seq ?_
    refine WC_region ?_
    refine WL_val rfl rfl rfl (R_move rfl rfl) ?_
    refine WL_val rfl rfl rfl (R_eql rfl rfl rfl) ?_
    refine WL_nil ?_
    refine WQ_code ?_
    refine WC_dec rfl (fun c1 => ?_) (fun c1 => ?_)
    · obtain ⟨j, hj, hjl⟩ := wakeR_lt h.pk c1
      have hz0 : (z.s.wakeR (n, dir)).2 = 0 := c1
      have hjt : (z.s.wakeR (n, dir)).1.toNat = j := by omega
      obtain ⟨u9, hu9⟩ := exE (T := z.R) (i := j) (by rw [h.rl]; exact hjl)
      have hput : putAt (ivs z.R ++ m.rtl) (0 + (z.s.wakeR (n, dir)).1.toNat * 1) [.int .i64 1] = ivs (z.R.set (z.s.wakeR (n, dir)).1.toNat 1) ++ m.rtl := by rw [hjt]; exact fm_put0 encI1 (1 : Int) hu9 (j := 0) (vs := [.int .i64 1]) (by simp) rfl (tl := m.rtl)
      refine WC_region ?_
      refine WL_val rfl rfl rfl (R_move rfl rfl) ?_
      refine WL_val rfl rfl rfl (R_nilCheck rfl rfl) ?_
      refine WL_val rfl rfl rfl (R_fieldAddr rfl fa92_3 rfl) ?_
      refine WL_val rfl rfl rfl (R_load rfl sc90 rfl (mmC) rfl) ?_
      refine WL_val rfl rfl rfl (R_move rfl rfl) ?_
      refine WL_val rfl rfl rfl (R_indexAddr rfl Tryz.underlying90 Tryz.sizeOf45 rfl rfl (by exact ⟨by omega, by rw [h.rl]; omega⟩)) ?_
      refine WL_do0 rfl rfl (D_store (vs := [_]) rfl Tryz.sizeOf45 rfl rfl rfl rfl rfl (plC) (by exact (show _ ≤ _ by rw [hjt]; exact fm_room0 encI1 (show j < z.R.length by rw [h.rl]; exact hjl) (j := 0) (by omega)))) ?_
      rintro _ _ rfl
      rw [hput]
      rw [show z.R.length = (z.R.set (z.s.wakeR (n, dir)).1.toNat 1).length from (List.length_set ..).symm]
      refine WL_nil ?_
      refine WQ_code ?_
      refine WC_seq ?_
      refine WC_region ?_
      refine WL_val rfl rfl rfl (R_move rfl rfl) ?_
      refine WL_val rfl rfl rfl (R_move rfl rfl) ?_
      refine WL_val rfl rfl rfl (R_assign rfl rfl) ?_
      refine WL_val rfl rfl rfl (R_assign rfl rfl) ?_
      refine WL_nil ?_
      refine WQ_code ?_
      refine WC_ret ?_
      refine WQ_ret rfl rfl (.cons (.tmp rfl) (.cons (.tmp rfl) .nil)) rfl (by
          exact ⟨{ m with l := l' }, rfl, by rw [if_pos hz0], rfl, by rw [if_pos hz0]; exact h.lotR (Nat.le_succ N) hl' (wake_sm _ _) _ 1⟩) (pqC)
    · have hz0 : ¬ (z.s.wakeR (n, dir)).2 = 0 := c1
      refine WC_skip ?_
      refine WQ_code ?_
      refine WC_seq ?_
      refine WC_region ?_
      refine WL_val rfl rfl rfl (R_move rfl rfl) ?_
      refine WL_val rfl rfl rfl (R_move rfl rfl) ?_
      refine WL_val rfl rfl rfl (R_assign rfl rfl) ?_
      refine WL_val rfl rfl rfl (R_assign rfl rfl) ?_
      refine WL_nil ?_
      refine WQ_code ?_
      refine WC_ret ?_
      refine WQ_ret rfl rfl (.cons (.tmp rfl) (.cons (.tmp rfl) .nil)) rfl (by
          have h7 := h.lot (Nat.le_succ N) hl' (wake_sm _ _)
          have e7 : z.s.wake (n, dir) = z.s := by unfold PS.wake; rw [if_neg hz0]
          rw [e7] at h7
          exact ⟨{ m with l := l' }, rfl, by rw [if_neg hz0], rfl, by rw [if_neg hz0]; exact h7⟩) (pqC)
  · have e8 : z.sigR n g dir = (0, z.spE n g dir) := if_neg he
    have e9 : z.sig n g dir = z := by unfold PoS.sig; rw [e8, if_neg he]
    rw [e8, e9]
    refine Spec.of (E := [(0, ptrH m.p), (1, .agg #[.int .i64 n, .int .i64 g]), (2, .int .i64 dir)]) Tryz.func24 rfl (by kernel_rfl) Tryz.ntmps24 rfl rfl (fun w => ?_)
    refine WC_seq ?_
    refine WC_region ?_
    refine WL_do rfl rfl rfl (D_box (cs := [_, _]) rfl rfl rfl) ?_
    rintro _ _ ⟨b1, rfl, rfl⟩
    refine WL_val rfl rfl rfl (R_assign rfl rfl) ?_
    refine WL_val rfl rfl rfl (R_assign rfl rfl) ?_
    refine WL_nil ?_
    refine WQ_code ?_
    refine WC_seq ?_
    refine WC_region ?_
    refine WL_val rfl rfl rfl (R_move rfl rfl) ?_
    refine WL_val rfl rfl rfl (R_loadA (vs := [_, _]) rfl ag30 rfl (mmC) rfl (atZ)) ?_
    refine WL_val rfl rfl rfl (R_move rfl rfl) ?_
    refine WL_do rfl rfl rfl (D_call (po_spot m h (by omega) n g dir) rfl rfl rfl rfl (pqC)) ?_
    rintro _ _ ⟨_, ⟨rfl, rfl⟩, rfl⟩
    refine WL_val rfl rfl rfl (R_move rfl rfl) ?_
    refine WL_val rfl rfl rfl (R_extract rfl rfl rfl) ?_
    refine WL_val rfl rfl rfl (R_extract rfl rfl rfl) ?_
    refine WL_do rfl rfl rfl (D_alloc rfl zv108) ?_
    rintro _ _ ⟨b2, rfl, rfl⟩
    refine WL_do0 rfl rfl (D_store (vs := [_, _]) rfl Tryz.sizeOf108 rfl rfl rfl rfl rfl (plC) (by exact Nat.le_of_ble_eq_true rfl)) ?_
    rintro _ _ rfl
    refine WL_val rfl rfl rfl (R_assign rfl rfl) ?_
    refine WL_nil ?_
    refine WQ_code ?_
    refine WC_seq ?_
    refine WC_seq ?_
    refine WC_region ?_
    refine WL_val rfl rfl rfl (R_move rfl rfl) ?_
    refine WL_val rfl rfl rfl (R_neq rfl rfl rfl) ?_
    refine WL_nil ?_
    refine WQ_code ?_
    refine WC_dT rfl (by exact he) ?_
    refine WC_seq ?_
    refine WC_region ?_
    refine WL_val rfl rfl rfl (R_move rfl rfl) ?_
    refine WL_val rfl rfl rfl (R_assign rfl rfl) ?_
    refine WL_val rfl rfl rfl (R_assign rfl rfl) ?_
    refine WL_nil ?_
    refine WQ_code ?_
    refine WC_ret ?_
    refine WQ_ret rfl rfl (.cons (.tmp rfl) (.cons (.tmp rfl) .nil)) rfl (by
        exact ⟨m, rfl, rfl, rfl, h.mono (by omega)⟩) (pqC)
theorem po_wait {N : Nat} {z : PoS} (m : PoM) (h : PoIs N z m) (hN : N ≤ 700000) (i n g dir : Int) : Spec Tryz.prog 16 [ptrH m.p, .int .i64 i, .agg #[.int .i64 n, .int .i64 g], .int .i64 dir] (poH z m) (fun x H' => ∃ m' : PoM, x = .int .i64 (z.waitE i n g dir) ∧ H' = poH (z.wait i n g dir) m' ∧ m'.p = m.p ∧ PoIs (N + 1) (z.wait i n g dir) m') := by
  refine Spec.of (E := [(0, ptrH m.p), (1, .int .i64 i), (2, .agg #[.int .i64 n, .int .i64 g]), (3, .int .i64 dir)]) Tryz.func16 rfl (by kernel_rfl) Tryz.ntmps16 rfl rfl (fun w => ?_)
  refine WC_seq ?_
  refine WC_region ?_
  refine WL_do rfl rfl rfl (D_box (cs := [_, _]) rfl rfl rfl) ?_
  rintro _ _ ⟨b1, rfl, rfl⟩
  refine WL_val rfl rfl rfl (R_assign rfl rfl) ?_
  refine WL_nil ?_
  refine WQ_code ?_
  refine WC_seq ?_
  refine WC_region ?_
  refine WL_val rfl rfl rfl (R_move rfl rfl) ?_
  refine WL_val rfl rfl rfl (R_move rfl rfl) ?_
  refine WL_do rfl rfl rfl (D_call (po_state m h (by omega) i) rfl rfl rfl rfl (pqC)) ?_
  rintro _ _ ⟨_, ⟨rfl, rfl⟩, rfl⟩
  refine WL_val rfl rfl rfl (R_move rfl rfl) ?_
  refine WL_val rfl rfl rfl (R_extract rfl rfl rfl) ?_
  refine WL_val rfl rfl rfl (R_extract rfl rfl rfl) ?_
  refine WL_val rfl rfl rfl (R_assign rfl rfl) ?_
  refine WL_val rfl rfl rfl (R_assign rfl rfl) ?_
  refine WL_nil ?_
  refine WQ_code ?_
  refine WC_seq ?_
  refine WC_seq ?_
  refine WC_region ?_
  refine WL_val rfl rfl rfl (R_move rfl rfl) ?_
  refine WL_val rfl rfl rfl (R_neq rfl rfl rfl) ?_
  refine WL_nil ?_
  refine WQ_code ?_
  refine WC_dec rfl (fun c1 => ?_) (fun c1 => ?_)
  · have e9 : z.waitE i n g dir = (stR z.s.sm i).2 := if_pos c1
    have e8 : z.wait i n g dir = z := if_neg (by rw [e9]; exact c1)
    refine WC_seq ?_
    refine WC_region ?_
    refine WL_val rfl rfl rfl (R_move rfl rfl) ?_
    refine WL_val rfl rfl rfl (R_assign rfl rfl) ?_
    refine WL_nil ?_
    refine WQ_code ?_
    refine WC_ret ?_
    refine WQ_ret rfl rfl (.cons (.tmp rfl) .nil) rfl (by
        rw [e8, e9]
        exact ⟨m, rfl, rfl, rfl, h.mono (Nat.le_succ N)⟩) (pqC)
  · have q1 : ¬ (stR z.s.sm i).2 ≠ 0 := c1
    refine WC_skip ?_
    refine WQ_code ?_
    refine WC_seq ?_
    refine WC_region ?_
    refine WL_val rfl rfl rfl (R_move rfl rfl) ?_
    refine WL_val rfl rfl rfl (R_loadA (vs := [_, _]) rfl ag30 rfl (mmC) rfl (atZ)) ?_
    refine WL_val rfl rfl rfl (R_move rfl rfl) ?_
    refine WL_do rfl rfl rfl (D_call (po_spot m h (by omega) n g dir) rfl rfl rfl rfl (pqC)) ?_
    rintro _ _ ⟨_, ⟨rfl, rfl⟩, rfl⟩
    refine WL_val rfl rfl rfl (R_move rfl rfl) ?_
    refine WL_val rfl rfl rfl (R_extract rfl rfl rfl) ?_
    refine WL_val rfl rfl rfl (R_extract rfl rfl rfl) ?_
    refine WL_do rfl rfl rfl (D_alloc rfl zv108) ?_
    rintro _ _ ⟨b2, rfl, rfl⟩
    refine WL_do0 rfl rfl (D_store (vs := [_, _]) rfl Tryz.sizeOf108 rfl rfl rfl rfl rfl (plC) (by exact Nat.le_of_ble_eq_true rfl)) ?_
    rintro _ _ rfl
    refine WL_val rfl rfl rfl (R_assign rfl rfl) ?_
    refine WL_nil ?_
    refine WQ_code ?_
    refine WC_seq ?_
    refine WC_block ?_
    refine WC_seq ?_
    refine WC_region ?_
    refine WL_val rfl rfl rfl (R_move rfl rfl) ?_
    refine WL_val rfl rfl rfl (R_neq rfl rfl rfl) ?_
    refine WL_val rfl rfl rfl (R_assign rfl rfl) ?_
    refine WL_nil ?_
    refine WQ_code ?_
    refine WC_dec rfl (fun c2 => ?_) (fun c2 => ?_)
    · have e9 : z.waitE i n g dir = z.spE n g dir := by unfold PoS.waitE; rw [if_neg q1, if_pos c2]
      have e8 : z.wait i n g dir = z := if_neg (by rw [e9]; exact c2)
      refine WC_seq ?_
      refine WC_region ?_
      refine WL_val rfl rfl rfl (R_move rfl rfl) ?_
      refine WL_val rfl rfl rfl (R_assign rfl rfl) ?_
      refine WL_nil ?_
      refine WQ_code ?_
      refine WC_ret ?_
      refine WQ_ret rfl rfl (.cons (.tmp rfl) .nil) rfl (by
          rw [e8, e9]
          exact ⟨m, rfl, rfl, rfl, h.mono (Nat.le_succ N)⟩) (pqC)
    · have q2 : ¬ z.spE n g dir ≠ 0 := c2
      refine WC_seq ?_
      refine WC_region ?_
      refine WL_val rfl rfl rfl (R_move rfl rfl) ?_
      refine WL_val rfl rfl rfl (R_neq rfl rfl rfl) ?_
      refine WL_val rfl rfl rfl (R_assign rfl rfl) ?_
      refine WL_nil ?_
      refine WQ_code ?_
      refine WC_dec rfl (fun c3 => ?_) (fun c3 => ?_)
      · have e9 : z.waitE i n g dir = 8 := by unfold PoS.waitE; rw [if_neg q1, if_neg q2, if_pos c3]
        have e8 : z.wait i n g dir = z := if_neg (by rw [e9]; decide)
        refine WC_seq ?_
        refine WC_region ?_
        refine WL_val rfl rfl rfl (R_assign rfl rfl) ?_
        refine WL_nil ?_
        refine WQ_code ?_
        refine WC_ret ?_
        refine WQ_ret rfl rfl (.cons (.tmp rfl) .nil) rfl (by
            rw [e8, e9]
            exact ⟨m, rfl, rfl, rfl, h.mono (Nat.le_succ N)⟩) (pqC)
      · have q3 : ¬ (stR z.s.sm i).1 ≠ 1 := c3
        refine WC_skip ?_
        refine WQ_code ?_
        refine WC_seq ?_
        refine WC_seq ?_
        refine WC_region ?_
        refine WL_val rfl rfl rfl (R_move rfl rfl) ?_
        refine WL_val rfl rfl rfl (R_loadA (vs := [_, _]) rfl ag30 rfl (mmC) rfl (atZ)) ?_
        refine WL_val rfl rfl rfl (R_move rfl rfl) ?_
        refine WL_do rfl rfl rfl (D_call (po_chk m h (by omega) n g dir) rfl rfl rfl rfl (pqC)) ?_
        rintro _ _ ⟨_, ⟨rfl, rfl⟩, rfl⟩
        refine WL_val rfl rfl rfl (R_assign rfl rfl) ?_
        refine WL_nil ?_
        refine WQ_code ?_
        refine WC_seq ?_
        refine WC_region ?_
        refine WL_val rfl rfl rfl (R_move rfl rfl) ?_
        refine WL_val rfl rfl rfl (R_neq rfl rfl rfl) ?_
        refine WL_nil ?_
        refine WQ_code ?_
        refine WC_dec rfl (fun c4 => ?_) (fun c4 => ?_)
        · have e9 : z.waitE i n g dir = z.chk n g dir := by unfold PoS.waitE; rw [if_neg q1, if_neg q2, if_neg q3]
          have e8 : z.wait i n g dir = z := if_neg (by rw [e9]; exact c4)
          refine WC_seq ?_
          refine WC_region ?_
          refine WL_val rfl rfl rfl (R_move rfl rfl) ?_
          refine WL_val rfl rfl rfl (R_assign rfl rfl) ?_
          refine WL_nil ?_
          refine WQ_code ?_
          refine WC_ret ?_
          refine WQ_ret rfl rfl (.cons (.tmp rfl) .nil) rfl (by
              rw [e8, e9]
              exact ⟨m, rfl, rfl, rfl, h.mono (Nat.le_succ N)⟩) (pqC)
        · have e9 : z.waitE i n g dir = 0 := by unfold PoS.waitE; rw [if_neg q1, if_neg q2, if_neg q3]; exact Decidable.not_not.1 c4
          have e8 : z.wait i n g dir = { z with s := z.s.park i (n, dir) } := if_pos e9
          obtain ⟨hv, hsp⟩ := spE_vld h (Decidable.not_not.1 q2)
          rw [hsp]
          have e7 : z.s.parkE i (n, dir) = 0 := by unfold PS.parkE; rw [if_neg q1, if_pos hv, if_pos (Decidable.not_not.1 q3)]
          refine WC_skip ?_
          refine WQ_code ?_
          refine WC_seq ?_
          refine WC_draw ([⟨some b2, _⟩, ⟨some m.p, _⟩]) [(0, true), (1, true), (2, true), (3, true), (4, true), (5, true), (6, false), (7, true)] followsMixed rfl rfl (by kernel_rfl) pqC ?_
          refine WM_val rfl rfl rfl rfl (R_move rfl rfl) ?_
          refine WM_val rfl rfl rfl rfl (R_nilCheck rfl rfl) ?_
          refine WM_val rfl rfl rfl rfl (R_fieldAddr rfl fa92_2 rfl) ?_
          refine WM_val rfl rfl rfl rfl (R_load rfl sc89 rfl (mmC) rfl) ?_
          refine WM_val rfl rfl rfl rfl (R_move rfl rfl) ?_
          refine WM_val rfl rfl rfl rfl (R_loadA (vs := [_, _]) rfl ag108 rfl (mmC) rfl (atZ)) ?_
          refine WM_do rfl rfl rfl rfl (D_call (p_park m.l h.pk (by omega) i (n, dir)) rfl rfl rfl rfl (pqC)) ?_
          rintro _ _ ⟨_, ⟨l', rfl, rfl, hlp, hl'⟩, rfl⟩
          refine ⟨⟨_, pqC⟩, ?_⟩
          simp only [poE]
          rw [← hlp, e7]
          refine WM_val rfl rfl rfl rfl (R_assign rfl rfl) ?_
          refine WM_nil ?_
          refine WQ_code ?_
          refine WC_ret ?_
          refine WQ_ret rfl rfl (.cons (.tmp rfl) .nil) rfl (by
              rw [e8, e9]
              exact ⟨{ m with l := l' }, rfl, rfl, rfl, h.lot (Nat.le_succ N) hl' (park_sm _ _ _)⟩) (pqC)
end Go.Proofs.YtbkdebnkoidicaaGreat
end
section
set_option linter.unusedVariables false
set_option maxRecDepth 20000
set_option maxHeartbeats 4000000
namespace Go.Proofs.YtbkdebnkoidicaaGreat
theorem po_adv {N : Nat} {z : PoS} (m : PoM) (h : PoIs N z m) (hN : N ≤ 700000) (to : Nat) (hto : to ≤ 18446744073709551615) : Spec Tryz.prog 18 [ptrH m.p, .int .u64 (to : Int)] (poH z m)
    (fun x H' => ∃ (l : List Lp) (m' : PoM) (ob : Option Nat) (c : Nat) (tl : List Value), LapR11 z.f z.now to l ∧ l.length ≤ 1024 ∧ x = .tuple #[slV ob ((z.advS to).laps l).2.length c, .int .i64 (advE11 z.now to)] ∧ Own ob ((z.advS to).laps l).2.length c 1 (ivs ((z.advS to).laps l).2) tl ∧ H' = ⟨ob, cl (ivs ((z.advS to).laps l).2 ++ tl) 3⟩ :: poH ((z.advS to).laps l).1 m' ∧ m'.p = m.p ∧ PoIs (N + 64) ((z.advS to).laps l).1 m') := by
  have hW := h.pk.ps.few
  have hdn := h.dn
  refine Spec.of (E := [(0, ptrH m.p), (1, .int .u64 (to : Int))]) Tryz.func18 rfl (by kernel_rfl) Tryz.ntmps18 rfl rfl (fun w => ?_)
  refine WC_seq ?_
  refine WC_region ?_
  refine WL_val rfl rfl rfl (R_assign rfl rfl) ?_
  refine WL_val rfl rfl rfl (R_assign rfl rfl) ?_
  refine WL_nil ?_
  refine WQ_code ?_
  refine WC_seq ?_
  refine WC_seq ?_
  refine WC_region ?_
  refine WL_val rfl rfl rfl (R_move rfl rfl) ?_
  refine WL_do rfl rfl rfl (D_call (po_zero z.R.length m) rfl rfl rfl rfl (pqC)) ?_
  rintro _ _ ⟨_, ⟨rfl, rfl⟩, rfl⟩
  refine WL_nil ?_
  refine WQ_code ?_
  refine WC_F rfl ?_
  refine WC_skip ?_
  refine WQ_code ?_
  refine WC_seq ?_
  refine WC_region ?_
  refine WL_val rfl rfl rfl (R_move rfl rfl) ?_
  refine WL_val rfl rfl rfl (R_nilCheck rfl rfl) ?_
  refine WL_val rfl rfl rfl (R_fieldAddr rfl fa92_1 rfl) ?_
  refine WL_val rfl rfl rfl (R_load rfl sc88 rfl (mmC) rfl) ?_
  refine WL_val rfl rfl rfl (R_move rfl rfl) ?_
  refine WL_do rfl rfl rfl (D_call (d_adv m.d h.di to hto) rfl rfl rfl rfl (pqC)) ?_
  rintro _ _ ⟨_, ⟨l, ob, c, tl, d', rfl, own, hlap, hll, rfl, hdp, hdd, hd'⟩, rfl⟩
  simp only [poE]
  rw [← hdp]
  have h2 : PoIs N (z.advS to) { m with d := d' } := h.ends (Nat.le_refl N) hd' (by omega)
  refine WL_val rfl rfl rfl (R_move rfl rfl) ?_
  refine WL_val rfl rfl rfl (R_extract rfl rfl rfl) ?_
  refine WL_val rfl rfl rfl (R_extract rfl rfl rfl) ?_
  refine WL_val rfl rfl rfl (R_assign rfl rfl) ?_
  refine WL_val rfl rfl rfl (R_assign rfl rfl) ?_
  refine WL_nil ?_
  refine WQ_code ?_
  refine WC_seq ?_
  refine WC_region ?_
  refine WL_val rfl rfl rfl (R_assign rfl rfl) ?_
  refine WL_nil ?_
  refine WQ_code ?_
  refine WC_seq ?_
  refine WC_seq ?_
  refine WC_region ?_
  refine WL_val rfl rfl rfl (R_move rfl rfl) ?_
  refine WL_val rfl rfl rfl (R_len rfl Tryz.underlying72 rfl) ?_
  refine WL_val rfl rfl rfl (R_move rfl rfl) ?_
  refine WL_nil ?_
  refine WQ_code ?_
  refine WC_block ?_
  refine WC_none 3 ?_
  refine WC_loopF (G := AdW) [8, 10, 24, 25, 26, 27, 28, 29, 30, 31, 32, 33, 34] (fun y => y.k ≤ l.length ∧ y.z = ((z.advS to).laps (l.take y.k)).1 ∧ y.o = ((z.advS to).laps (l.take y.k)).2 ∧ PoIs y.n y.z y.m ∧ y.n + y.z.s.W.length ≤ N + 64 ∧ y.o.length + y.z.s.W.length ≤ 64 ∧ y.m.p = m.p ∧ Own y.ob y.o.length y.c 1 (ivs y.o) y.tl) (fun y => [(24, .int .i64 (y.k : Int)), (8, slV y.ob y.o.length y.c)]) (fun y => ⟨y.ob, cl (ivs y.o ++ y.tl) 3⟩ :: poH y.z y.m) (fun y => l.length - y.k) (⟨0, z.advS to, { m with d := d' }, N, [], none, 0, []⟩) (⟨Nat.zero_le _, by rw [List.take_zero]; rfl, by rw [List.take_zero]; rfl, h2, by (show N + z.s.W.length ≤ _); omega, by (show 0 + z.s.W.length ≤ _); omega, rfl, Own.empty 1⟩) leZ (pqC) ?_
  rintro y ⟨hyk, hyz, hyl, hyi, hyn, hyw, hyp, hyo⟩
  rw [← hyp]
  refine WC_seq ?_
  refine WC_region ?_
  refine WL_val rfl rfl rfl (R_lss rfl rfl rfl) ?_
  refine WL_nil ?_
  refine WQ_code ?_
  refine WC_seq ?_
  refine WC_dec rfl (fun c1 => ?_) (fun c1 => ?_)
  · refine WC_skip ?_
    refine WQ_code ?_
    refine WC_seq ?_
    refine WC_block ?_
    refine WC_seq ?_
    refine WC_region ?_
    obtain ⟨x, hx⟩ := exE (T := l) (i := y.k) (by omega)
    obtain ⟨wb, hwb⟩ := own.some_of (by omega)
    rw [hwb]
    have hwk := wakes_W hyi.pk.ps (x.fd, x.dir)
    refine WL_val rfl rfl rfl (R_indexAddrN rfl Tryz.underlying72 Tryz.sizeOf117 rfl rfl (by omega)) ?_
    refine WL_val rfl rfl rfl (R_loadA (vs := encLp x) rfl ag117 rfl (mmC) rfl (fm_at0 encLp3 hx (j := 0) (vs := encLp x) (fun j v h => by rw [Nat.zero_add]; exact h) (Nat.le_refl _))) ?_
    refine WL_do rfl rfl rfl (D_alloc rfl zv117) ?_
    rintro _ _ ⟨b1, rfl, rfl⟩
    refine WL_do0 rfl rfl (D_store (vs := [_, _, _]) rfl Tryz.sizeOf117 rfl rfl rfl rfl rfl (plC) (by exact Nat.le_of_ble_eq_true rfl)) ?_
    rintro _ _ rfl
    refine WL_nil ?_
    refine WQ_code ?_
    refine WC_region ?_
    refine WL_val rfl rfl rfl (R_move rfl rfl) ?_
    refine WL_val rfl rfl rfl (R_move rfl rfl) ?_
    refine WL_val rfl rfl rfl (R_fieldAddr rfl fa117_0 rfl) ?_
    refine WL_val rfl rfl rfl (R_loadA (vs := [_, _]) rfl ag108 rfl (mmC) rfl (atZ)) ?_
    refine WL_do rfl rfl rfl (D_call (po_all y.m hyi (by omega) (x.fd, x.dir) 2) rfl rfl rfl rfl (pqC)) ?_
    rintro _ _ ⟨_, ⟨m2, o2, c2, tl2, rfl, own2, rfl, hm2, h3⟩, rfl⟩
    have pm2 : m2.p = y.m.p := hm2
    refine WL_do rfl rfl rfl (D_appendO rfl si34 rfl hyo plC rfl own2 mmC (ivs_1 _) (by omega) (by omega)) ?_
    rintro _ _ ⟨o5, c5, tl5, rfl, own5, rfl⟩
    rw [ivs_app, ← List.length_append] at own5
    rw [ivs_app, ← List.length_append]
    refine WL_val rfl rfl rfl (R_assign rfl rfl) ?_
    refine WL_nil ?_
    refine WQ_code ?_
    refine WC_region ?_
    refine WL_val rfl rfl rfl (R_add rfl rfl rfl (by omega)) ?_
    refine WL_val rfl rfl rfl (R_move rfl rfl) ?_
    refine WL_nil ?_
    rw [← pm2]
    refine WQ_nextF (gg := y) (⟨y.k + 1, y.z.all (x.fd, x.dir) 2, m2, y.n + (y.z.s.waiting (x.fd, x.dir)).length, y.o ++ y.z.s.waiting (x.fd, x.dir), o5, c5, tl5⟩) (⟨by dsimp only; omega, by dsimp only; rw [tk_next hx, laps_snoc, ← hyz], by dsimp only; rw [tk_next hx, laps_snoc, ← hyz, ← hyl], h3, by (show y.n + _ + (y.z.s.wakeAll (x.fd, x.dir)).W.length ≤ _); omega, by (show (y.o ++ _).length + (y.z.s.wakeAll (x.fd, x.dir)).W.length ≤ _); rw [List.length_append]; omega, rfl, own5⟩) (by dsimp only; omega) leZ (psZ) rfl (pqC)
  · have hkl : y.k = l.length := by omega
    have hzf : y.z = ((z.advS to).laps l).1 := by rw [hyz, hkl, List.take_length]
    have hof : y.o = ((z.advS to).laps l).2 := by rw [hyl, hkl, List.take_length]
    refine WC_exit ?_
    refine WQ_code ?_
    refine WC_seq ?_
    refine WC_region ?_
    refine WL_val rfl rfl rfl (R_move rfl rfl) ?_
    refine WL_val rfl rfl rfl (R_move rfl rfl) ?_
    refine WL_val rfl rfl rfl (R_assign rfl rfl) ?_
    refine WL_val rfl rfl rfl (R_assign rfl rfl) ?_
    refine WL_nil ?_
    refine WQ_code ?_
    refine WC_ret ?_
    refine WQ_ret rfl rfl (.cons (.tmp rfl) (.cons (.tmp rfl) .nil)) rfl (by
        exact ⟨l, y.m, y.ob, y.c, y.tl, hlap, hll, by rw [← hof]; rfl, by rw [← hof]; exact hyo, by rw [← hzf, ← hof], rfl, by rw [← hzf]; exact hyi.mono (by omega)⟩) (pqC)
end Go.Proofs.YtbkdebnkoidicaaGreat
end
section
set_option linter.unusedVariables false
set_option maxRecDepth 20000
set_option maxHeartbeats 2000000
namespace Go.Proofs.YtbkdebnkoidicaaGreat
theorem lfd_ok (n g : Int) : Spec Tryz.prog 11 [.int .i64 n, .int .i64 g] [] (fun x H' => x = .agg #[.int .i64 n, .int .i64 g] ∧ H' = []) := by
  refine Spec.of (E := [(0, .int .i64 n), (1, .int .i64 g)]) Tryz.func11 rfl (by kernel_rfl) Tryz.ntmps11 rfl rfl (fun w => ?_)
  refine WC_seq ?_
  refine WC_region ?_
  refine WL_do rfl rfl rfl (D_alloc rfl zv30) ?_
  rintro _ _ ⟨b1, rfl, rfl⟩
  refine WL_nil ?_
  refine WQ_code ?_
  refine WC_seq ?_
  refine WC_region ?_
  refine WL_val rfl rfl rfl (R_move rfl rfl) ?_
  refine WL_val rfl rfl rfl (R_move rfl rfl) ?_
  refine WL_val rfl rfl rfl (R_build rfl zv30 pl30 rfl rfl) ?_
  refine WL_do0 rfl rfl (D_store (vs := [_, _]) rfl Tryz.sizeOf30 rfl rfl rfl rfl rfl (plC) (by exact Nat.le_of_ble_eq_true rfl)) ?_
  rintro _ _ rfl
  refine WL_nil ?_
  refine WQ_code ?_
  refine WC_ret ?_
  refine WQ_ret rfl rfl (.cons (.cell (vs := [_, _]) rfl ag30 (mmC) rfl (atZ)) .nil) rfl (by
      exact ⟨rfl, rfl⟩) (pqC)
theorem opens_ok {N : Nat} {z : PoS} (m : PoM) (h : PoIs N z m) (hN : N ≤ 700000) (v wn wg : Int) (hw : opnR z.T = ((wn, wg), 0)) : Spec Tryz.prog 14 [ptrH m.p, .int .i64 v, .agg #[.int .i64 wn, .int .i64 wg]] (poH z m) (fun x H' => x = .bool true ∧ H' = poH (z.openE v) m ∧ PoIs (N + 1) (z.openE v) m) := by
  refine Spec.of (E := [(0, ptrH m.p), (1, .int .i64 v), (2, .agg #[.int .i64 wn, .int .i64 wg])]) Tryz.func14 rfl (by kernel_rfl) Tryz.ntmps14 rfl rfl (fun w => ?_)
  refine WC_seq ?_
  refine WC_region ?_
  refine WL_do rfl rfl rfl (D_box (cs := [_, _]) rfl rfl rfl) ?_
  rintro _ _ ⟨b1, rfl, rfl⟩
  refine WL_val rfl rfl rfl (R_assign rfl rfl) ?_
  refine WL_nil ?_
  refine WQ_code ?_
  refine WC_seq ?_
  refine WC_region ?_
  refine WL_val rfl rfl rfl (R_move rfl rfl) ?_
  refine WL_val rfl rfl rfl (R_move rfl rfl) ?_
  refine WL_do rfl rfl rfl (D_call (po_open m h (by omega) v) rfl rfl rfl rfl (pqC)) ?_
  rintro _ _ ⟨_, ⟨rfl, rfl, h2⟩, rfl⟩
  rw [hw]
  refine WL_val rfl rfl rfl (R_move rfl rfl) ?_
  refine WL_val rfl rfl rfl (R_extract rfl rfl rfl) ?_
  refine WL_val rfl rfl rfl (R_extract rfl rfl rfl) ?_
  refine WL_do rfl rfl rfl (D_alloc rfl zv30) ?_
  rintro _ _ ⟨b2, rfl, rfl⟩
  refine WL_do0 rfl rfl (D_store (vs := [_, _]) rfl Tryz.sizeOf30 rfl rfl rfl rfl rfl (plC) (by exact Nat.le_of_ble_eq_true rfl)) ?_
  rintro _ _ rfl
  refine WL_val rfl rfl rfl (R_assign rfl rfl) ?_
  refine WL_nil ?_
  refine WQ_code ?_
  refine WC_seq ?_
  refine WC_region ?_
  refine WL_val rfl rfl rfl (R_loadA (vs := [_, _]) rfl ag30 rfl (mmC) rfl (atZ)) ?_
  refine WL_val rfl rfl rfl (R_loadA (vs := [_, _]) rfl ag30 rfl (mmC) rfl (atZ)) ?_
  refine WL_val rfl rfl rfl (R_seq30 rfl rfl rfl rfl) ?_
  refine WL_set (s := 17) (v := .bool true) rfl (by simp) ?_
  refine WL_val rfl rfl rfl (R_move rfl rfl) ?_
  refine WL_val rfl rfl rfl (R_move rfl rfl) ?_
  refine WL_val rfl rfl rfl (R_eql rfl rfl rfl) ?_
  refine WL_set (s := 20) (v := .bool true) rfl (by simp) ?_
  refine WL_val rfl rfl rfl (R_pickT rfl rfl rfl) ?_
  refine WL_val rfl rfl rfl (R_assign rfl rfl) ?_
  refine WL_nil ?_
  refine WQ_code ?_
  refine WC_ret ?_
  refine WQ_ret rfl rfl (.cons (.tmp rfl) .nil) rfl (by
      exact ⟨rfl, rfl, h2⟩) (pqC)
theorem reason_ok {N : Nat} {z : PoS} (m : PoM) (h : PoIs N z m) (hN : N ≤ 700000) (i want : Int) (hw : z.rsn i = (want, 0)) : Spec Tryz.prog 19 [ptrH m.p, .int .i64 i, .int .i64 want] (poH z m) (fun x H' => x = .bool true ∧ H' = poH z m) := by
  refine Spec.of (E := [(0, ptrH m.p), (1, .int .i64 i), (2, .int .i64 want)]) Tryz.func19 rfl (by kernel_rfl) Tryz.ntmps19 rfl rfl (fun w => ?_)
  refine WC_seq ?_
  refine WC_region ?_
  refine WL_val rfl rfl rfl (R_assign rfl rfl) ?_
  refine WL_nil ?_
  refine WQ_code ?_
  refine WC_seq ?_
  refine WC_region ?_
  refine WL_val rfl rfl rfl (R_move rfl rfl) ?_
  refine WL_val rfl rfl rfl (R_move rfl rfl) ?_
  refine WL_do rfl rfl rfl (D_call (po_rsn m h (by omega) i) rfl rfl rfl rfl (pqC)) ?_
  rintro _ _ ⟨_, ⟨rfl, rfl⟩, rfl⟩
  rw [hw]
  refine WL_val rfl rfl rfl (R_move rfl rfl) ?_
  refine WL_val rfl rfl rfl (R_extract rfl rfl rfl) ?_
  refine WL_val rfl rfl rfl (R_extract rfl rfl rfl) ?_
  refine WL_val rfl rfl rfl (R_assign rfl rfl) ?_
  refine WL_val rfl rfl rfl (R_assign rfl rfl) ?_
  refine WL_nil ?_
  refine WQ_code ?_
  refine WC_seq ?_
  refine WC_region ?_
  refine WL_val rfl rfl rfl (R_move rfl rfl) ?_
  refine WL_val rfl rfl rfl (R_move rfl rfl) ?_
  refine WL_val rfl rfl rfl (R_eql rfl rfl rfl) ?_
  refine WL_set (s := 17) (v := .bool true) rfl (by simp) ?_
  refine WL_val rfl rfl rfl (R_move rfl rfl) ?_
  refine WL_val rfl rfl rfl (R_move rfl rfl) ?_
  refine WL_val rfl rfl rfl (R_eql rfl rfl rfl) ?_
  refine WL_set (s := 20) (v := .bool true) rfl (by simp) ?_
  refine WL_val rfl rfl rfl (R_pickT rfl rfl rfl) ?_
  refine WL_val rfl rfl rfl (R_assign rfl rfl) ?_
  refine WL_nil ?_
  refine WQ_code ?_
  refine WC_ret ?_
  refine WQ_ret rfl rfl (.cons (.tmp rfl) .nil) rfl (by
      exact ⟨rfl, rfl⟩) (pqC)
theorem woke_ok (l : List Int) (hl : l.length ≤ 1000000) (o1 : Option Nat) (c1 : Nat) (t1 : List Value) (o2 : Option Nat) (c2 : Nat) (t2 : List Value) (h1 : Own o1 l.length c1 1 (ivs l) t1) (h2 : Own o2 l.length c2 1 (ivs l) t2) :
    Spec Tryz.prog 13 [slV o1 l.length c1, .int .i64 0, slV o2 l.length c2] [⟨o1, cl (ivs l ++ t1) 3⟩, ⟨o2, cl (ivs l ++ t2) 3⟩] (fun r H' => r = .bool true ∧ H' = [⟨o1, cl (ivs l ++ t1) 3⟩, ⟨o2, cl (ivs l ++ t2) 3⟩]) := by
  refine Spec.of (E := [(0, slV o1 l.length c1), (1, .int .i64 0), (2, slV o2 l.length c2)]) Tryz.func13 rfl (by kernel_rfl) Tryz.ntmps13 rfl rfl (fun w => ?_)
  refine WC_seq ?_
  refine WC_region ?_
  refine WL_val rfl rfl rfl (R_assign rfl rfl) ?_
  refine WL_nil ?_
  refine WQ_code ?_
  refine WC_seq ?_
  refine WC_region ?_
  refine WL_val rfl rfl rfl (R_move rfl rfl) ?_
  refine WL_val rfl rfl rfl (R_move rfl rfl) ?_
  refine WL_do rfl rfl rfl (D_call (same_ok l hl o1 c1 t1 o2 c2 t2 h1 h2) rfl rfl rfl rfl (pqC)) ?_
  rintro _ _ ⟨_, ⟨rfl, rfl⟩, rfl⟩
  refine WL_val rfl rfl rfl (R_move rfl rfl) ?_
  refine WL_val rfl rfl rfl (R_move rfl rfl) ?_
  refine WL_val rfl rfl rfl (R_eql rfl rfl rfl) ?_
  refine WL_set (s := 12) (v := .bool true) rfl (by simp) ?_
  refine WL_val rfl rfl rfl (R_pickT rfl rfl rfl) ?_
  refine WL_val rfl rfl rfl (R_assign rfl rfl) ?_
  refine WL_nil ?_
  refine WQ_code ?_
  refine WC_ret ?_
  refine WQ_ret rfl rfl (.cons (.tmp rfl) .nil) rfl (by
      exact ⟨rfl, rfl⟩) (pqC)
theorem woke_none (o1 : Option Nat) (c1 : Nat) (t1 : List Value) (h1 : Own o1 ([] : List Int).length c1 1 (ivs []) t1) : Spec Tryz.prog 13 [slV o1 ([] : List Int).length c1, .int .i64 0, .slice none 0 0] [⟨o1, cl (ivs [] ++ t1) 3⟩, ⟨none, cl [] 3⟩] (fun r H' => r = .bool true ∧ H' = [⟨o1, cl (ivs [] ++ t1) 3⟩, ⟨none, cl [] 3⟩]) :=
  woke_ok [] (by decide) o1 c1 t1 none 0 [] h1 (Own.empty 1)
end Go.Proofs.YtbkdebnkoidicaaGreat
end
section
set_option linter.unusedVariables false
set_option maxRecDepth 20000
set_option maxHeartbeats 4000000
namespace Go.Proofs.YtbkdebnkoidicaaGreat
theorem WL_noneC {X : Ctx} {p : Post} {E : Env} {H : Heap} {ops : Array Oper} {l : List Oper} (e : TypeId) (k : WL X ops p l E (⟨none, cl [] e⟩ :: H)) : WL X ops p l E H := fun a w ha hw => k a w ha (hw.addNone e)
section
variable {N : Nat} {z : PoS} (m : PoM) (h : PoIs N z m) (hN : N ≤ 700000)
include h hN
theorem dead_run (n g dir : Int) (k : Nat) (hk : k ≤ 18446744073709551615) (L : List Int) (hL : z.deadL n g dir k = L) (he : z.spE n g dir = 0) : Spec Tryz.prog 17 [ptrH m.p, .agg #[.int .i64 n, .int .i64 g], .int .i64 dir, .int .u64 (k : Int)] (poH z m) (fun x H' => ∃ (m' : PoM) (ob : Option Nat) (c : Nat) (tl : List Value), x = .tuple #[slV ob L.length c, .int .i64 0] ∧ Own ob L.length c 1 (ivs L) tl ∧ H' = ⟨ob, cl (ivs L ++ tl) 3⟩ :: poH (z.dead n g dir k) m' ∧ m'.p = m.p ∧ PoIs (N + 65) (z.dead n g dir k) m') := by
  subst hL
  have := po_dead m h hN n g dir k hk
  rw [he] at this
  exact this
theorem close_run (n g : Int) (L : List Int) (hL : z.closeL n g = L) (he : (getT z.T n g).2 = 0) : Spec Tryz.prog 12 [ptrH m.p, .agg #[.int .i64 n, .int .i64 g]] (poH z m) (fun x H' => ∃ (m' : PoM) (ob : Option Nat) (c : Nat) (tl : List Value), x = .tuple #[slV ob L.length c, .int .i64 0] ∧ Own ob L.length c 1 (ivs L) tl ∧ H' = ⟨ob, cl (ivs L ++ tl) 3⟩ :: poH (z.close n g) m' ∧ m'.p = m.p ∧ PoIs (N + 130) (z.close n g) m') := by
  subst hL
  have := po_close m h hN n g
  rw [he] at this
  exact this
theorem adv_run (to : Nat) (hto : to ≤ 18446744073709551615) (l0 : List Lp) (hl0 : LapR11 z.f z.now to l0) (hE : advE11 z.now to = 0) (L : List Int) (hL : ((z.advS to).laps l0).2 = L) : Spec Tryz.prog 18 [ptrH m.p, .int .u64 (to : Int)] (poH z m)
    (fun x H' => ∃ (m' : PoM) (ob : Option Nat) (c : Nat) (tl : List Value), x = .tuple #[slV ob L.length c, .int .i64 0] ∧ Own ob L.length c 1 (ivs L) tl ∧ H' = ⟨ob, cl (ivs L ++ tl) 3⟩ :: poH ((z.advS to).laps l0).1 m' ∧ m'.p = m.p ∧ PoIs (N + 64) ((z.advS to).laps l0).1 m') := by
  subst hL
  refine (po_adv m h hN to hto).mono fun x H' ⟨l, m', ob, c, tl, h1, h2, h3, h4, h5, h6, h7⟩ => ?_
  obtain rfl := h1.one hl0
  rw [hE] at h3
  exact ⟨m', ob, c, tl, h3, h4, h5, h6, h7⟩
end
theorem start_f (z : PoS) (i : Int) : (z.start i).f = z.f := by unfold PoS.start; split <;> rfl
theorem wait_f (z : PoS) (i n g dir : Int) : (z.wait i n g dir).f = z.f := by unfold PoS.wait; split <;> rfl
theorem sig_f (z : PoS) (n g dir : Int) : (z.sig n g dir).f = z.f := by unfold PoS.sig; split <;> rfl
theorem dead_later {z : PoS} {n g dir : Int} {k : Nat} (he : z.spE n g dir = 0) (hk : ¬ k ≤ z.now) : z.dead n g dir k = { z with f := updF z.f (plS (n, dir)) k } := by unfold PoS.dead; rw [if_pos he, if_neg hk]
def kz0 : PoS := newS 3 10
def kz1 : PoS := kz0.openE 7
def kz2 : PoS := kz1.start 0
def kz3 : PoS := kz2.start 1
def kz4 : PoS := kz3.start 2
def kz5 : PoS := kz4.wait 0 0 0 0
def kz6 : PoS := kz5.wait 1 0 0 1
def kz7 : PoS := kz6.wait 2 0 0 0
def kz8 : PoS := kz7.dead 0 0 0 15
def kz9 : PoS := ((kz8.advS 14).laps []).1
def kz10 : PoS := kz9.sig 0 0 0
def kz11 : PoS := ((kz10.advS 15).laps [⟨0, 0, 15⟩]).1
def kz12 : PoS := kz11.close 0 0
def kz13 : PoS := kz12.openE 8
theorem kf0 : opnR kz0.T = ((0, 0), 0) := by decide +kernel
theorem kf1 : (stepR kz1.s.sm kz1.s.qm 0 1 0).1 = 0 := by decide +kernel
theorem kf2 : (stepR kz2.s.sm kz2.s.qm 0 1 1).1 = 0 := by decide +kernel
theorem kf3 : (stepR kz3.s.sm kz3.s.qm 0 1 2).1 = 0 := by decide +kernel
theorem kf4 : kz4.waitE 0 0 0 0 = 0 := by decide +kernel
theorem kf5 : kz5.waitE 1 0 0 1 = 0 := by decide +kernel
theorem kf6 : kz6.waitE 2 0 0 0 = 0 := by decide +kernel
theorem kf7 : kz7.deadL 0 0 0 15 = [] ∧ kz7.spE 0 0 0 = 0 ∧ ¬ 15 ≤ kz7.now := by decide +kernel
theorem kf8 : kz8.now = 10 ∧ kz9.now = 14 ∧ kz10.now = 14 ∧ advE11 kz8.now 14 = 0 ∧ advE11 kz10.now 15 = 0 := by decide +kernel
theorem kf9 : kz9.sigR 0 0 0 = (0, 0) ∧ kz10.rsn 0 = (1, 0) := by decide +kernel
theorem kf10 : ((kz10.advS 15).laps [⟨0, 0, 15⟩]).2 = [2] ∧ kz11.rsn 2 = (2, 0) ∧ kz11.chk 0 0 0 = 12 := by decide +kernel
theorem kf11 : kz11.closeL 0 0 = [1] ∧ (getT kz11.T 0 0).2 = 0 := by decide +kernel
theorem kf12 : kz12.rsn 1 = (3, 0) ∧ kz12.chk 0 0 0 = 9 ∧ opnR kz12.T = ((0, 1), 0) := by decide +kernel
theorem kf13 : kz13.chk 0 1 0 = 0 ∧ (kz13.whr 1).2 = 8 := by decide +kernel
theorem kff : kz7.f = fun _ => 18446744073709551615 := by
  unfold kz7 kz6 kz5 kz4 kz3 kz2 kz1 kz0
  rw [wait_f, wait_f, wait_f, start_f, start_f, start_f]; rfl
theorem kf8f : kz8.f = updF (fun _ => 18446744073709551615) 0 15 := by
  unfold kz8
  rw [dead_later kf7.2.1 kf7.2.2, kff]; rfl
theorem kf10f : kz10.f = updF (fun _ => 18446744073709551615) 0 15 := by
  unfold kz10
  rw [sig_f]; exact kf8f
theorem lap11_none : IsLap (updF (fun _ => 18446744073709551615) 0 15) 10 14 [] := by
  refine ⟨.nil, fun x => ⟨fun hx => (by cases hx), ?_⟩⟩
  rintro ⟨i, hi, h1, h2, rfl⟩
  unfold updF at h1 h2
  dsimp only at h1 h2
  split at h2 <;> omega
theorem lap11_one : IsLap (updF (fun _ => 18446744073709551615) 0 15) 14 15 [⟨0, 0, 15⟩] := by
  refine ⟨List.pairwise_singleton _ _, fun x => ⟨fun hx => ?_, ?_⟩⟩
  · rw [List.mem_singleton] at hx; subst hx
    exact ⟨0, by decide, by decide, by decide, rfl⟩
  · rintro ⟨i, hi, h1, h2, rfl⟩
    by_cases e : i = 0
    · subst e; exact List.mem_singleton.2 rfl
    · exfalso
      unfold updF at h2
      rw [if_neg e] at h2; dsimp only at h2; omega
theorem kl8 : LapR11 kz8.f kz8.now 14 [] := by
  unfold LapR11
  rw [if_pos kf8.2.2.2.1, kf8f, kf8.1]; exact lap11_none
theorem kl10 : LapR11 kz10.f kz10.now 15 [⟨0, 0, 15⟩] := by
  unfold LapR11
  rw [if_pos kf8.2.2.2.2, kf10f, kf8.2.2.1]; exact lap11_one
end Go.Proofs.YtbkdebnkoidicaaGreat
end
section
set_option linter.unusedVariables false
set_option maxRecDepth 20000
set_option maxHeartbeats 8000000
namespace Go.Proofs.YtbkdebnkoidicaaGreat
theorem known_ok : Spec Tryz.prog 8 [] [] (fun r H' => r = .bool true ∧ H' = []) := by
  refine Spec.of (E := []) Tryz.func8 rfl (by kernel_rfl) Tryz.ntmps8 rfl rfl (fun w => ?_)
  refine WC_seq ?_
  refine WC_region ?_
  refine WL_val rfl rfl rfl (R_assign rfl rfl) ?_
  refine WL_nil ?_
  refine WQ_code ?_
  refine WC_seq ?_
  refine WC_region ?_
  refine WL_do rfl rfl rfl (D_call (po_new 3 10 (by decide) (by decide) (by decide)) rfl rfl rfl rfl (pqC)) ?_
  rintro _ _ ⟨_, ⟨m0, rfl, rfl, g0⟩, rfl⟩
  have g0 : PoIs _ kz0 m0 := g0
  refine WL_val rfl rfl rfl (R_move rfl rfl) ?_
  refine WL_val rfl rfl rfl (R_extract rfl rfl rfl) ?_
  refine WL_val rfl rfl rfl (R_extract rfl rfl rfl) ?_
  refine WL_val rfl rfl rfl (R_assign rfl rfl) ?_
  refine WL_val rfl rfl rfl (R_assign rfl rfl) ?_
  refine WL_nil ?_
  refine WQ_code ?_
  refine WC_seq ?_
  refine WC_region ?_
  refine WL_do rfl rfl rfl (D_call (lfd_ok _ _) rfl rfl rfl rfl (pqC)) ?_
  rintro _ _ ⟨_, ⟨rfl, rfl⟩, rfl⟩
  refine WL_do rfl rfl rfl (D_alloc rfl zv30) ?_
  rintro _ _ ⟨b1, rfl, rfl⟩
  refine WL_do0 rfl rfl (D_store (vs := [_, _]) rfl Tryz.sizeOf30 rfl rfl rfl rfl rfl (plC) (by exact Nat.le_of_ble_eq_true rfl)) ?_
  rintro _ _ rfl
  refine WL_nil ?_
  refine WQ_code ?_
  refine WC_seq ?_
  refine WC_seq ?_
  refine WC_region ?_
  refine WL_val rfl rfl rfl (R_move rfl rfl) ?_
  refine WL_val rfl rfl rfl (R_ptrEqNil rfl Tryz.underlying23 rfl) ?_
  refine WL_val rfl rfl rfl (R_move rfl rfl) ?_
  refine WL_val rfl rfl rfl (R_move rfl rfl) ?_
  refine WL_val rfl rfl rfl (R_neq rfl rfl rfl) ?_
  refine WL_val rfl rfl rfl (R_pickF rfl rfl rfl) ?_
  refine WL_val rfl rfl rfl (R_move rfl rfl) ?_
  refine WL_set (s := 22) (v := .bool false) rfl (by simp) ?_
  refine WL_val rfl rfl rfl (R_move rfl rfl) ?_
  refine WL_val rfl rfl rfl (R_loadA (vs := [_, _]) rfl ag30 rfl (mmC) rfl (atZ)) ?_
  refine WL_do rfl rfl rfl (D_call (opens_ok m0 g0 (by omega) 7 0 0 kf0) rfl rfl rfl rfl (pqC)) ?_
  rintro _ _ ⟨_, ⟨rfl, rfl, g1⟩, rfl⟩
  have g1 : PoIs _ kz1 m0 := g1
  refine WL_val rfl rfl rfl (R_not rfl rfl) ?_
  refine WL_val rfl rfl rfl (R_pickF rfl rfl rfl) ?_
  refine WL_val rfl rfl rfl (R_move rfl rfl) ?_
  refine WL_val rfl rfl rfl (R_move rfl rfl) ?_
  refine WL_do rfl rfl rfl (D_call (po_start m0 g1 (by omega) 0) rfl rfl rfl rfl (pqC)) ?_
  rintro _ _ ⟨_, ⟨m2, rfl, rfl, p2, g2⟩, rfl⟩
  have g2 : PoIs _ kz2 m2 := g2
  rw [← p2]
  refine WL_val rfl rfl rfl (R_neq rfl rfl rfl) ?_
  refine WL_set (s := 31) (v := .bool false) rfl (by exact congrArg Value.bool (decide_eq_false (fun h => h kf1))) ?_
  refine WL_val rfl rfl rfl (R_pickF rfl rfl rfl) ?_
  refine WL_val rfl rfl rfl (R_move rfl rfl) ?_
  refine WL_val rfl rfl rfl (R_move rfl rfl) ?_
  refine WL_do rfl rfl rfl (D_call (po_start m2 g2 (by omega) 1) rfl rfl rfl rfl (pqC)) ?_
  rintro _ _ ⟨_, ⟨m3, rfl, rfl, p3, g3⟩, rfl⟩
  have g3 : PoIs _ kz3 m3 := g3
  rw [← p3]
  refine WL_val rfl rfl rfl (R_neq rfl rfl rfl) ?_
  refine WL_set (s := 36) (v := .bool false) rfl (by exact congrArg Value.bool (decide_eq_false (fun h => h kf2))) ?_
  refine WL_val rfl rfl rfl (R_pickF rfl rfl rfl) ?_
  refine WL_val rfl rfl rfl (R_move rfl rfl) ?_
  refine WL_val rfl rfl rfl (R_move rfl rfl) ?_
  refine WL_do rfl rfl rfl (D_call (po_start m3 g3 (by omega) 2) rfl rfl rfl rfl (pqC)) ?_
  rintro _ _ ⟨_, ⟨m4, rfl, rfl, p4, g4⟩, rfl⟩
  have g4 : PoIs _ kz4 m4 := g4
  rw [← p4]
  refine WL_val rfl rfl rfl (R_neq rfl rfl rfl) ?_
  refine WL_set (s := 41) (v := .bool false) rfl (by exact congrArg Value.bool (decide_eq_false (fun h => h kf3))) ?_
  refine WL_val rfl rfl rfl (R_pickF rfl rfl rfl) ?_
  refine WL_nil ?_
  refine WQ_code ?_
  refine WC_F rfl ?_
  refine WC_skip ?_
  refine WQ_code ?_
  refine WC_seq ?_
  refine WC_seq ?_
  refine WC_region ?_
  refine WL_val rfl rfl rfl (R_move rfl rfl) ?_
  refine WL_val rfl rfl rfl (R_loadA (vs := [_, _]) rfl ag30 rfl (mmC) rfl (atZ)) ?_
  refine WL_do rfl rfl rfl (D_call (po_wait m4 g4 (by omega) 0 0 0 0) rfl rfl rfl rfl (pqC)) ?_
  rintro _ _ ⟨_, ⟨m5, rfl, rfl, p5, g5⟩, rfl⟩
  have g5 : PoIs _ kz5 m5 := g5
  rw [← p5]
  refine WL_val rfl rfl rfl (R_neq rfl rfl rfl) ?_
  refine WL_set (s := 46) (v := .bool false) rfl (by exact congrArg Value.bool (decide_eq_false (fun h => h kf4))) ?_
  refine WL_val rfl rfl rfl (R_move rfl rfl) ?_
  refine WL_val rfl rfl rfl (R_move rfl rfl) ?_
  refine WL_val rfl rfl rfl (R_loadA (vs := [_, _]) rfl ag30 rfl (mmC) rfl (atZ)) ?_
  refine WL_do rfl rfl rfl (D_call (po_wait m5 g5 (by omega) 1 0 0 1) rfl rfl rfl rfl (pqC)) ?_
  rintro _ _ ⟨_, ⟨m6, rfl, rfl, p6, g6⟩, rfl⟩
  have g6 : PoIs _ kz6 m6 := g6
  rw [← p6]
  refine WL_val rfl rfl rfl (R_neq rfl rfl rfl) ?_
  refine WL_set (s := 51) (v := .bool false) rfl (by exact congrArg Value.bool (decide_eq_false (fun h => h kf5))) ?_
  refine WL_val rfl rfl rfl (R_pickF rfl rfl rfl) ?_
  refine WL_val rfl rfl rfl (R_move rfl rfl) ?_
  refine WL_val rfl rfl rfl (R_move rfl rfl) ?_
  refine WL_val rfl rfl rfl (R_loadA (vs := [_, _]) rfl ag30 rfl (mmC) rfl (atZ)) ?_
  refine WL_do rfl rfl rfl (D_call (po_wait m6 g6 (by omega) 2 0 0 0) rfl rfl rfl rfl (pqC)) ?_
  rintro _ _ ⟨_, ⟨m7, rfl, rfl, p7, g7⟩, rfl⟩
  have g7 : PoIs _ kz7 m7 := g7
  rw [← p7]
  refine WL_val rfl rfl rfl (R_neq rfl rfl rfl) ?_
  refine WL_set (s := 57) (v := .bool false) rfl (by exact congrArg Value.bool (decide_eq_false (fun h => h kf6))) ?_
  refine WL_val rfl rfl rfl (R_pickF rfl rfl rfl) ?_
  refine WL_nil ?_
  refine WQ_code ?_
  refine WC_F rfl ?_
  refine WC_skip ?_
  refine WQ_code ?_
  refine WC_seq ?_
  refine WC_region ?_
  refine WL_val rfl rfl rfl (R_move rfl rfl) ?_
  refine WL_val rfl rfl rfl (R_loadA (vs := [_, _]) rfl ag30 rfl (mmC) rfl (atZ)) ?_
  refine WL_do rfl rfl rfl (D_call (dead_run m7 g7 (by omega) 0 0 0 15 (by decide) [] kf7.1 kf7.2.1) rfl rfl rfl rfl (pqC)) ?_
  rintro _ _ ⟨_, ⟨m8, o8, c8, t8, rfl, w8, rfl, p8, g8⟩, rfl⟩
  have g8 : PoIs _ kz8 m8 := g8
  rw [← p8]
  refine WL_val rfl rfl rfl (R_move rfl rfl) ?_
  refine WL_val rfl rfl rfl (R_extract rfl rfl rfl) ?_
  refine WL_val rfl rfl rfl (R_extract rfl rfl rfl) ?_
  refine WL_val rfl rfl rfl (R_assign rfl rfl) ?_
  refine WL_val rfl rfl rfl (R_assign rfl rfl) ?_
  refine WL_nil ?_
  refine WQ_code ?_
  refine WC_seq ?_
  refine WC_region ?_
  refine WL_val rfl rfl rfl (R_move rfl rfl) ?_
  refine WL_do rfl rfl rfl (D_call (adv_run m8 g8 (by omega) 14 (by decide) [] kl8 kf8.2.2.2.1 [] rfl) rfl rfl rfl rfl (pqC)) ?_
  rintro _ _ ⟨_, ⟨m9, o9, c9, t9, rfl, w9, rfl, p9, g9⟩, rfl⟩
  have g9 : PoIs _ kz9 m9 := g9
  rw [← p9]
  refine WL_val rfl rfl rfl (R_move rfl rfl) ?_
  refine WL_val rfl rfl rfl (R_extract rfl rfl rfl) ?_
  refine WL_val rfl rfl rfl (R_extract rfl rfl rfl) ?_
  refine WL_val rfl rfl rfl (R_assign rfl rfl) ?_
  refine WL_val rfl rfl rfl (R_assign rfl rfl) ?_
  refine WL_nil ?_
  refine WQ_code ?_
  refine WC_seq ?_
  refine WC_region ?_
  refine WL_val rfl rfl rfl (R_move rfl rfl) ?_
  refine WL_val rfl rfl rfl (R_loadA (vs := [_, _]) rfl ag30 rfl (mmC) rfl (atZ)) ?_
  refine WL_do rfl rfl rfl (D_call (po_sig m9 g9 (by omega) 0 0 0) rfl rfl rfl rfl (pqC)) ?_
  rintro _ _ ⟨_, ⟨m10, rfl, rfl, p10, g10⟩, rfl⟩
  have g10 : PoIs _ kz10 m10 := g10
  rw [← p10]
  have hs9 : kz9.sigR 0 0 0 = (0, 0) := kf9.1
  rw [show PoS.sigR _ 0 0 0 = (0, 0) from hs9]
  refine WL_val rfl rfl rfl (R_move rfl rfl) ?_
  refine WL_val rfl rfl rfl (R_extract rfl rfl rfl) ?_
  refine WL_val rfl rfl rfl (R_extract rfl rfl rfl) ?_
  refine WL_val rfl rfl rfl (R_assign rfl rfl) ?_
  refine WL_val rfl rfl rfl (R_assign rfl rfl) ?_
  refine WL_nil ?_
  refine WQ_code ?_
  refine WC_seq ?_
  refine WC_seq ?_
  refine WC_region ?_
  refine WL_val rfl rfl rfl (R_move rfl rfl) ?_
  refine WL_val rfl rfl rfl (R_move rfl rfl) ?_
  refine WL_noneC 3 ?_
  refine WL_do rfl rfl rfl (D_call (woke_none o8 c8 t8 w8) rfl rfl rfl rfl (pqC)) ?_
  rintro _ _ ⟨_, ⟨rfl, rfl⟩, rfl⟩
  refine WL_val rfl rfl rfl (R_not rfl rfl) ?_
  refine WL_val rfl rfl rfl (R_move rfl rfl) ?_
  refine WL_val rfl rfl rfl (R_move rfl rfl) ?_
  refine WL_val rfl rfl rfl (R_move rfl rfl) ?_
  refine WL_do rfl rfl rfl (D_call (woke_none o9 c9 t9 w9) rfl rfl rfl rfl (pqC)) ?_
  rintro _ _ ⟨_, ⟨rfl, rfl⟩, rfl⟩
  refine WL_val rfl rfl rfl (R_not rfl rfl) ?_
  refine WL_val rfl rfl rfl (R_pickF rfl rfl rfl) ?_
  refine WL_val rfl rfl rfl (R_move rfl rfl) ?_
  refine WL_val rfl rfl rfl (R_move rfl rfl) ?_
  refine WL_val rfl rfl rfl (R_neq rfl rfl rfl) ?_
  refine WL_set (s := 88) (v := .bool false) rfl (by simp) ?_
  refine WL_val rfl rfl rfl (R_pickF rfl rfl rfl) ?_
  refine WL_val rfl rfl rfl (R_move rfl rfl) ?_
  refine WL_val rfl rfl rfl (R_move rfl rfl) ?_
  refine WL_val rfl rfl rfl (R_neq rfl rfl rfl) ?_
  refine WL_set (s := 92) (v := .bool false) rfl (by simp) ?_
  refine WL_val rfl rfl rfl (R_pickF rfl rfl rfl) ?_
  refine WL_val rfl rfl rfl (R_move rfl rfl) ?_
  refine WL_val rfl rfl rfl (R_move rfl rfl) ?_
  refine WL_do rfl rfl rfl (D_call (reason_ok m10 g10 (by omega) 0 1 kf9.2) rfl rfl rfl rfl (pqC)) ?_
  rintro _ _ ⟨_, ⟨rfl, rfl⟩, rfl⟩
  refine WL_val rfl rfl rfl (R_not rfl rfl) ?_
  refine WL_val rfl rfl rfl (R_pickF rfl rfl rfl) ?_
  refine WL_nil ?_
  refine WQ_code ?_
  refine WC_F rfl ?_
  refine WC_skip ?_
  refine WQ_code ?_
  refine WC_seq ?_
  refine WC_region ?_
  refine WL_val rfl rfl rfl (R_move rfl rfl) ?_
  refine WL_do rfl rfl rfl (D_call (adv_run m10 g10 (by omega) 15 (by decide) [⟨0, 0, 15⟩] kl10 kf8.2.2.2.2 [2] kf10.1) rfl rfl rfl rfl (pqC)) ?_
  rintro _ _ ⟨_, ⟨m11, o11, c11, t11, rfl, w11, rfl, p11, g11⟩, rfl⟩
  have g11 : PoIs _ kz11 m11 := g11
  rw [← p11]
  refine WL_val rfl rfl rfl (R_move rfl rfl) ?_
  refine WL_val rfl rfl rfl (R_extract rfl rfl rfl) ?_
  refine WL_val rfl rfl rfl (R_extract rfl rfl rfl) ?_
  refine WL_val rfl rfl rfl (R_assign rfl rfl) ?_
  refine WL_val rfl rfl rfl (R_assign rfl rfl) ?_
  refine WL_nil ?_
  refine WQ_code ?_
  refine WC_seq ?_
  refine WC_seq ?_
  refine WC_region ?_
  refine WL_val rfl rfl rfl (R_move rfl rfl) ?_
  refine WL_val rfl rfl rfl (R_move rfl rfl) ?_
  refine WL_do rfl rfl rfl (D_buildSlice rfl si34 rfl rfl rfl) ?_
  rintro _ _ ⟨b2, rfl, rfl⟩
  refine WL_do rfl rfl rfl (D_call (woke_ok [2] (by decide) o11 c11 t11 (some b2) 1 [] w11 ⟨rfl, rfl, by decide, by decide, fun e => by cases e⟩) rfl rfl rfl rfl (pqC)) ?_
  rintro _ _ ⟨_, ⟨rfl, rfl⟩, rfl⟩
  refine WL_val rfl rfl rfl (R_not rfl rfl) ?_
  refine WL_val rfl rfl rfl (R_move rfl rfl) ?_
  refine WL_val rfl rfl rfl (R_move rfl rfl) ?_
  refine WL_do rfl rfl rfl (D_call (reason_ok m11 g11 (by omega) 2 2 kf10.2.1) rfl rfl rfl rfl (pqC)) ?_
  rintro _ _ ⟨_, ⟨rfl, rfl⟩, rfl⟩
  refine WL_val rfl rfl rfl (R_not rfl rfl) ?_
  refine WL_val rfl rfl rfl (R_pickF rfl rfl rfl) ?_
  refine WL_val rfl rfl rfl (R_move rfl rfl) ?_
  refine WL_val rfl rfl rfl (R_move rfl rfl) ?_
  refine WL_val rfl rfl rfl (R_loadA (vs := [_, _]) rfl ag30 rfl (mmC) rfl (atZ)) ?_
  refine WL_do rfl rfl rfl (D_call (po_chk m11 g11 (by omega) 0 0 0) rfl rfl rfl rfl (pqC)) ?_
  rintro _ _ ⟨_, ⟨rfl, rfl⟩, rfl⟩
  refine WL_val rfl rfl rfl (R_neq rfl rfl rfl) ?_
  refine WL_set (s := 118) (v := .bool false) rfl (by exact congrArg Value.bool (decide_eq_false (fun h => h kf10.2.2))) ?_
  refine WL_val rfl rfl rfl (R_pickF rfl rfl rfl) ?_
  refine WL_nil ?_
  refine WQ_code ?_
  refine WC_F rfl ?_
  refine WC_skip ?_
  refine WQ_code ?_
  refine WC_seq ?_
  refine WC_region ?_
  refine WL_val rfl rfl rfl (R_move rfl rfl) ?_
  refine WL_val rfl rfl rfl (R_loadA (vs := [_, _]) rfl ag30 rfl (mmC) rfl (atZ)) ?_
  refine WL_do rfl rfl rfl (D_call (close_run m11 g11 (by omega) 0 0 [1] kf11.1 kf11.2) rfl rfl rfl rfl (pqC)) ?_
  rintro _ _ ⟨_, ⟨m12, o12, c12, t12, rfl, w12, rfl, p12, g12⟩, rfl⟩
  have g12 : PoIs _ kz12 m12 := g12
  rw [← p12]
  refine WL_val rfl rfl rfl (R_move rfl rfl) ?_
  refine WL_val rfl rfl rfl (R_extract rfl rfl rfl) ?_
  refine WL_val rfl rfl rfl (R_extract rfl rfl rfl) ?_
  refine WL_val rfl rfl rfl (R_assign rfl rfl) ?_
  refine WL_val rfl rfl rfl (R_assign rfl rfl) ?_
  refine WL_nil ?_
  refine WQ_code ?_
  refine WC_seq ?_
  refine WC_seq ?_
  refine WC_region ?_
  refine WL_val rfl rfl rfl (R_move rfl rfl) ?_
  refine WL_val rfl rfl rfl (R_move rfl rfl) ?_
  refine WL_do rfl rfl rfl (D_buildSlice rfl si34 rfl rfl rfl) ?_
  rintro _ _ ⟨b3, rfl, rfl⟩
  refine WL_do rfl rfl rfl (D_call (woke_ok [1] (by decide) o12 c12 t12 (some b3) 1 [] w12 ⟨rfl, rfl, by decide, by decide, fun e => by cases e⟩) rfl rfl rfl rfl (pqC)) ?_
  rintro _ _ ⟨_, ⟨rfl, rfl⟩, rfl⟩
  refine WL_val rfl rfl rfl (R_not rfl rfl) ?_
  refine WL_val rfl rfl rfl (R_move rfl rfl) ?_
  refine WL_val rfl rfl rfl (R_move rfl rfl) ?_
  refine WL_do rfl rfl rfl (D_call (reason_ok m12 g12 (by omega) 1 3 kf12.1) rfl rfl rfl rfl (pqC)) ?_
  rintro _ _ ⟨_, ⟨rfl, rfl⟩, rfl⟩
  refine WL_val rfl rfl rfl (R_not rfl rfl) ?_
  refine WL_val rfl rfl rfl (R_pickF rfl rfl rfl) ?_
  refine WL_val rfl rfl rfl (R_move rfl rfl) ?_
  refine WL_val rfl rfl rfl (R_move rfl rfl) ?_
  refine WL_val rfl rfl rfl (R_loadA (vs := [_, _]) rfl ag30 rfl (mmC) rfl (atZ)) ?_
  refine WL_do rfl rfl rfl (D_call (po_chk m12 g12 (by omega) 0 0 0) rfl rfl rfl rfl (pqC)) ?_
  rintro _ _ ⟨_, ⟨rfl, rfl⟩, rfl⟩
  refine WL_val rfl rfl rfl (R_neq rfl rfl rfl) ?_
  refine WL_set (s := 140) (v := .bool false) rfl (by exact congrArg Value.bool (decide_eq_false (fun h => h kf12.2.1))) ?_
  refine WL_val rfl rfl rfl (R_pickF rfl rfl rfl) ?_
  refine WL_val rfl rfl rfl (R_move rfl rfl) ?_
  refine WL_val rfl rfl rfl (R_move rfl rfl) ?_
  refine WL_do rfl rfl rfl (D_call (lfd_ok _ _) rfl rfl rfl rfl (pqC)) ?_
  rintro _ _ ⟨_, ⟨rfl, rfl⟩, rfl⟩
  refine WL_do rfl rfl rfl (D_call (opens_ok m12 g12 (by omega) 8 0 1 kf12.2.2) rfl rfl rfl rfl (pqC)) ?_
  rintro _ _ ⟨_, ⟨rfl, rfl, g13⟩, rfl⟩
  have g13 : PoIs _ kz13 m12 := g13
  refine WL_val rfl rfl rfl (R_not rfl rfl) ?_
  refine WL_val rfl rfl rfl (R_pickF rfl rfl rfl) ?_
  refine WL_val rfl rfl rfl (R_move rfl rfl) ?_
  refine WL_val rfl rfl rfl (R_move rfl rfl) ?_
  refine WL_do rfl rfl rfl (D_call (lfd_ok _ _) rfl rfl rfl rfl (pqC)) ?_
  rintro _ _ ⟨_, ⟨rfl, rfl⟩, rfl⟩
  refine WL_do rfl rfl rfl (D_call (po_chk m12 g13 (by omega) 0 1 0) rfl rfl rfl rfl (pqC)) ?_
  rintro _ _ ⟨_, ⟨rfl, rfl⟩, rfl⟩
  refine WL_val rfl rfl rfl (R_neq rfl rfl rfl) ?_
  refine WL_set (s := 152) (v := .bool false) rfl (by exact congrArg Value.bool (decide_eq_false (fun h => h kf13.1))) ?_
  refine WL_val rfl rfl rfl (R_pickF rfl rfl rfl) ?_
  refine WL_nil ?_
  refine WQ_code ?_
  refine WC_F rfl ?_
  refine WC_skip ?_
  refine WQ_code ?_
  refine WC_seq ?_
  refine WC_region ?_
  refine WL_val rfl rfl rfl (R_move rfl rfl) ?_
  refine WL_do rfl rfl rfl (D_call (po_where m12 g13 (by omega) 1) rfl rfl rfl rfl (pqC)) ?_
  rintro _ _ ⟨_, ⟨rfl, rfl⟩, rfl⟩
  refine WL_val rfl rfl rfl (R_move rfl rfl) ?_
  refine WL_val rfl rfl rfl (R_extract rfl rfl rfl) ?_
  refine WL_val rfl rfl rfl (R_extract rfl rfl rfl) ?_
  refine WL_val rfl rfl rfl (R_extract rfl rfl rfl) ?_
  refine WL_val rfl rfl rfl (R_assign rfl rfl) ?_
  refine WL_nil ?_
  refine WQ_code ?_
  refine WC_seq ?_
  refine WC_region ?_
  refine WL_val rfl rfl rfl (R_move rfl rfl) ?_
  refine WL_val rfl rfl rfl (R_eql rfl rfl rfl) ?_
  refine WL_set (s := 161) (v := .bool true) rfl (by exact congrArg Value.bool (decide_eq_true kf13.2)) ?_
  refine WL_val rfl rfl rfl (R_assign rfl rfl) ?_
  refine WL_nil ?_
  refine WQ_code ?_
  refine WC_ret ?_
  refine WQ_ret rfl rfl (.cons (.tmp rfl) .nil) rfl (by
      exact ⟨rfl, rfl⟩) (pqC)
end Go.Proofs.YtbkdebnkoidicaaGreat
end
section
set_option linter.unusedVariables false
set_option maxRecDepth 20000
set_option maxHeartbeats 4000000
namespace Go.Proofs.YtbkdebnkoidicaaGreat
theorem nopen_nl (v : Int) : Spec Tryz.prog 10 [.pointer none, .int .i64 v] [] (fun x H' => x = .tuple #[.agg #[.int .i64 0, .int .i64 0], .int .i64 1] ∧ H' = []) := by
  refine Spec.of (E := [(0, .pointer none), (1, .int .i64 v)]) Tryz.func10 rfl (by kernel_rfl) Tryz.ntmps10 rfl rfl (fun w => ?_)
  refine WC_seq ?_
  refine WC_region ?_
  refine WL_do rfl rfl rfl (D_alloc rfl zv30) ?_
  rintro _ _ ⟨b1, rfl, rfl⟩
  refine WL_val rfl rfl rfl (R_assign rfl rfl) ?_
  refine WL_nil ?_
  refine WQ_code ?_
  refine WC_seq ?_
  refine WC_seq ?_
  refine WC_region ?_
  refine WL_val rfl rfl rfl (R_move rfl rfl) ?_
  refine WL_do rfl rfl rfl (D_call (po_znil) rfl rfl rfl rfl (pqC)) ?_
  rintro _ _ ⟨_, ⟨rfl, rfl⟩, rfl⟩
  refine WL_nil ?_
  refine WQ_code ?_
  refine WC_T rfl ?_
  refine WC_seq ?_
  refine WC_region ?_
  refine WL_val rfl rfl rfl (R_build rfl zv30 pl30 rfl rfl) ?_
  refine WL_do0 rfl rfl (D_store (vs := [_, _]) rfl Tryz.sizeOf30 rfl rfl rfl rfl rfl (plC) (by exact Nat.le_of_ble_eq_true rfl)) ?_
  rintro _ _ rfl
  refine WL_val rfl rfl rfl (R_assign rfl rfl) ?_
  refine WL_nil ?_
  refine WQ_code ?_
  refine WC_ret ?_
  refine WQ_ret rfl rfl (.cons (.cell (vs := [_, _]) rfl ag30 (mmC) rfl (atZ)) (.cons (.tmp rfl) .nil)) rfl (by
      exact ⟨rfl, rfl⟩) (pqC)
theorem nopen_zr (p9 : Nat) (v : Int) : Spec Tryz.prog 10 [ptrH p9, .int .i64 v] [⟨some p9, cl [.pointer none, .pointer none, .pointer none, .slice none 0 0] 92⟩] (fun x H' => x = .tuple #[.agg #[.int .i64 0, .int .i64 0], .int .i64 1] ∧ H' = [⟨some p9, cl [.pointer none, .pointer none, .pointer none, .slice none 0 0] 92⟩]) := by
  refine Spec.of (E := [(0, ptrH p9), (1, .int .i64 v)]) Tryz.func10 rfl (by kernel_rfl) Tryz.ntmps10 rfl rfl (fun w => ?_)
  refine WC_seq ?_
  refine WC_region ?_
  refine WL_do rfl rfl rfl (D_alloc rfl zv30) ?_
  rintro _ _ ⟨b1, rfl, rfl⟩
  refine WL_val rfl rfl rfl (R_assign rfl rfl) ?_
  refine WL_nil ?_
  refine WQ_code ?_
  refine WC_seq ?_
  refine WC_seq ?_
  refine WC_region ?_
  refine WL_val rfl rfl rfl (R_move rfl rfl) ?_
  refine WL_do rfl rfl rfl (D_call (po_zz p9) rfl rfl rfl rfl (pqC)) ?_
  rintro _ _ ⟨_, ⟨rfl, rfl⟩, rfl⟩
  refine WL_nil ?_
  refine WQ_code ?_
  refine WC_T rfl ?_
  refine WC_seq ?_
  refine WC_region ?_
  refine WL_val rfl rfl rfl (R_build rfl zv30 pl30 rfl rfl) ?_
  refine WL_do0 rfl rfl (D_store (vs := [_, _]) rfl Tryz.sizeOf30 rfl rfl rfl rfl rfl (plC) (by exact Nat.le_of_ble_eq_true rfl)) ?_
  rintro _ _ rfl
  refine WL_val rfl rfl rfl (R_assign rfl rfl) ?_
  refine WL_nil ?_
  refine WQ_code ?_
  refine WC_ret ?_
  refine WQ_ret rfl rfl (.cons (.cell (vs := [_, _]) rfl ag30 (mmC) rfl (atZ)) (.cons (.tmp rfl) .nil)) rfl (by
      exact ⟨rfl, rfl⟩) (pqC)
theorem nclose_nl (n g : Int) : Spec Tryz.prog 12 [.pointer none, .agg #[.int .i64 n, .int .i64 g]] [] (fun x H' => x = .tuple #[.slice none 0 0, .int .i64 1] ∧ H' = []) := by
  refine Spec.of (E := [(0, .pointer none), (1, .agg #[.int .i64 n, .int .i64 g])]) Tryz.func12 rfl (by kernel_rfl) Tryz.ntmps12 rfl rfl (fun w => ?_)
  refine WC_seq ?_
  refine WC_region ?_
  refine WL_do rfl rfl rfl (D_box (cs := [_, _]) rfl rfl rfl) ?_
  rintro _ _ ⟨b1, rfl, rfl⟩
  refine WL_val rfl rfl rfl (R_assign rfl rfl) ?_
  refine WL_val rfl rfl rfl (R_assign rfl rfl) ?_
  refine WL_nil ?_
  refine WQ_code ?_
  refine WC_seq ?_
  refine WC_seq ?_
  refine WC_region ?_
  refine WL_val rfl rfl rfl (R_move rfl rfl) ?_
  refine WL_do rfl rfl rfl (D_call (po_znil) rfl rfl rfl rfl (pqC)) ?_
  rintro _ _ ⟨_, ⟨rfl, rfl⟩, rfl⟩
  refine WL_nil ?_
  refine WQ_code ?_
  refine WC_T rfl ?_
  refine WC_seq ?_
  refine WC_region ?_
  refine WL_val rfl rfl rfl (R_assign rfl rfl) ?_
  refine WL_val rfl rfl rfl (R_assign rfl rfl) ?_
  refine WL_nil ?_
  refine WQ_code ?_
  refine WC_ret ?_
  refine WQ_ret rfl rfl (.cons (.tmp rfl) (.cons (.tmp rfl) .nil)) rfl (by
      exact ⟨rfl, rfl⟩) (pqC)
theorem nclose_zr (p9 : Nat) (n g : Int) : Spec Tryz.prog 12 [ptrH p9, .agg #[.int .i64 n, .int .i64 g]] [⟨some p9, cl [.pointer none, .pointer none, .pointer none, .slice none 0 0] 92⟩] (fun x H' => x = .tuple #[.slice none 0 0, .int .i64 1] ∧ H' = [⟨some p9, cl [.pointer none, .pointer none, .pointer none, .slice none 0 0] 92⟩]) := by
  refine Spec.of (E := [(0, ptrH p9), (1, .agg #[.int .i64 n, .int .i64 g])]) Tryz.func12 rfl (by kernel_rfl) Tryz.ntmps12 rfl rfl (fun w => ?_)
  refine WC_seq ?_
  refine WC_region ?_
  refine WL_do rfl rfl rfl (D_box (cs := [_, _]) rfl rfl rfl) ?_
  rintro _ _ ⟨b1, rfl, rfl⟩
  refine WL_val rfl rfl rfl (R_assign rfl rfl) ?_
  refine WL_val rfl rfl rfl (R_assign rfl rfl) ?_
  refine WL_nil ?_
  refine WQ_code ?_
  refine WC_seq ?_
  refine WC_seq ?_
  refine WC_region ?_
  refine WL_val rfl rfl rfl (R_move rfl rfl) ?_
  refine WL_do rfl rfl rfl (D_call (po_zz p9) rfl rfl rfl rfl (pqC)) ?_
  rintro _ _ ⟨_, ⟨rfl, rfl⟩, rfl⟩
  refine WL_nil ?_
  refine WQ_code ?_
  refine WC_T rfl ?_
  refine WC_seq ?_
  refine WC_region ?_
  refine WL_val rfl rfl rfl (R_assign rfl rfl) ?_
  refine WL_val rfl rfl rfl (R_assign rfl rfl) ?_
  refine WL_nil ?_
  refine WQ_code ?_
  refine WC_ret ?_
  refine WQ_ret rfl rfl (.cons (.tmp rfl) (.cons (.tmp rfl) .nil)) rfl (by
      exact ⟨rfl, rfl⟩) (pqC)
theorem nvalue_nl (n g : Int) : Spec Tryz.prog 33 [.pointer none, .agg #[.int .i64 n, .int .i64 g]] [] (fun x H' => x = .tuple #[.int .i64 0, .int .i64 1] ∧ H' = []) := by
  refine Spec.of (E := [(0, .pointer none), (1, .agg #[.int .i64 n, .int .i64 g])]) Tryz.func33 rfl (by kernel_rfl) Tryz.ntmps33 rfl rfl (fun w => ?_)
  refine WC_seq ?_
  refine WC_region ?_
  refine WL_do rfl rfl rfl (D_box (cs := [_, _]) rfl rfl rfl) ?_
  rintro _ _ ⟨b1, rfl, rfl⟩
  refine WL_val rfl rfl rfl (R_assign rfl rfl) ?_
  refine WL_val rfl rfl rfl (R_assign rfl rfl) ?_
  refine WL_nil ?_
  refine WQ_code ?_
  refine WC_seq ?_
  refine WC_seq ?_
  refine WC_region ?_
  refine WL_val rfl rfl rfl (R_move rfl rfl) ?_
  refine WL_do rfl rfl rfl (D_call (po_znil) rfl rfl rfl rfl (pqC)) ?_
  rintro _ _ ⟨_, ⟨rfl, rfl⟩, rfl⟩
  refine WL_nil ?_
  refine WQ_code ?_
  refine WC_T rfl ?_
  refine WC_seq ?_
  refine WC_region ?_
  refine WL_val rfl rfl rfl (R_assign rfl rfl) ?_
  refine WL_val rfl rfl rfl (R_assign rfl rfl) ?_
  refine WL_nil ?_
  refine WQ_code ?_
  refine WC_ret ?_
  refine WQ_ret rfl rfl (.cons (.tmp rfl) (.cons (.tmp rfl) .nil)) rfl (by
      exact ⟨rfl, rfl⟩) (pqC)
theorem nvalue_zr (p9 : Nat) (n g : Int) : Spec Tryz.prog 33 [ptrH p9, .agg #[.int .i64 n, .int .i64 g]] [⟨some p9, cl [.pointer none, .pointer none, .pointer none, .slice none 0 0] 92⟩] (fun x H' => x = .tuple #[.int .i64 0, .int .i64 1] ∧ H' = [⟨some p9, cl [.pointer none, .pointer none, .pointer none, .slice none 0 0] 92⟩]) := by
  refine Spec.of (E := [(0, ptrH p9), (1, .agg #[.int .i64 n, .int .i64 g])]) Tryz.func33 rfl (by kernel_rfl) Tryz.ntmps33 rfl rfl (fun w => ?_)
  refine WC_seq ?_
  refine WC_region ?_
  refine WL_do rfl rfl rfl (D_box (cs := [_, _]) rfl rfl rfl) ?_
  rintro _ _ ⟨b1, rfl, rfl⟩
  refine WL_val rfl rfl rfl (R_assign rfl rfl) ?_
  refine WL_val rfl rfl rfl (R_assign rfl rfl) ?_
  refine WL_nil ?_
  refine WQ_code ?_
  refine WC_seq ?_
  refine WC_seq ?_
  refine WC_region ?_
  refine WL_val rfl rfl rfl (R_move rfl rfl) ?_
  refine WL_do rfl rfl rfl (D_call (po_zz p9) rfl rfl rfl rfl (pqC)) ?_
  rintro _ _ ⟨_, ⟨rfl, rfl⟩, rfl⟩
  refine WL_nil ?_
  refine WQ_code ?_
  refine WC_T rfl ?_
  refine WC_seq ?_
  refine WC_region ?_
  refine WL_val rfl rfl rfl (R_assign rfl rfl) ?_
  refine WL_val rfl rfl rfl (R_assign rfl rfl) ?_
  refine WL_nil ?_
  refine WQ_code ?_
  refine WC_ret ?_
  refine WQ_ret rfl rfl (.cons (.tmp rfl) (.cons (.tmp rfl) .nil)) rfl (by
      exact ⟨rfl, rfl⟩) (pqC)
theorem nspot_nl (n g dir : Int) : Spec Tryz.prog 47 [.pointer none, .agg #[.int .i64 n, .int .i64 g], .int .i64 dir] [] (fun x H' => x = .tuple #[.agg #[.int .i64 0, .int .i64 0], .int .i64 1] ∧ H' = []) := by
  refine Spec.of (E := [(0, .pointer none), (1, .agg #[.int .i64 n, .int .i64 g]), (2, .int .i64 dir)]) Tryz.func47 rfl (by kernel_rfl) Tryz.ntmps47 rfl rfl (fun w => ?_)
  refine WC_seq ?_
  refine WC_region ?_
  refine WL_do rfl rfl rfl (D_box (cs := [_, _]) rfl rfl rfl) ?_
  rintro _ _ ⟨b1, rfl, rfl⟩
  refine WL_do rfl rfl rfl (D_alloc rfl zv108) ?_
  rintro _ _ ⟨b2, rfl, rfl⟩
  refine WL_val rfl rfl rfl (R_assign rfl rfl) ?_
  refine WL_nil ?_
  refine WQ_code ?_
  refine WC_seq ?_
  refine WC_block ?_
  refine WC_seq ?_
  refine WC_region ?_
  refine WL_val rfl rfl rfl (R_move rfl rfl) ?_
  refine WL_do rfl rfl rfl (D_call (po_znil) rfl rfl rfl rfl (pqC)) ?_
  rintro _ _ ⟨_, ⟨rfl, rfl⟩, rfl⟩
  refine WL_val rfl rfl rfl (R_assign rfl rfl) ?_
  refine WL_nil ?_
  refine WQ_code ?_
  refine WC_T rfl ?_
  refine WC_seq ?_
  refine WC_region ?_
  refine WL_val rfl rfl rfl (R_build rfl zv108 pl108 rfl rfl) ?_
  refine WL_do0 rfl rfl (D_store (vs := [_, _]) rfl Tryz.sizeOf108 rfl rfl rfl rfl rfl (plC) (by exact Nat.le_of_ble_eq_true rfl)) ?_
  rintro _ _ rfl
  refine WL_val rfl rfl rfl (R_assign rfl rfl) ?_
  refine WL_nil ?_
  refine WQ_code ?_
  refine WC_ret ?_
  refine WQ_ret rfl rfl (.cons (.cell (vs := [_, _]) rfl ag108 (mmC) rfl (atZ)) (.cons (.tmp rfl) .nil)) rfl (by
      exact ⟨rfl, rfl⟩) (pqC)
theorem nspot_zr (p9 : Nat) (n g dir : Int) : Spec Tryz.prog 47 [ptrH p9, .agg #[.int .i64 n, .int .i64 g], .int .i64 dir] [⟨some p9, cl [.pointer none, .pointer none, .pointer none, .slice none 0 0] 92⟩] (fun x H' => x = .tuple #[.agg #[.int .i64 0, .int .i64 0], .int .i64 1] ∧ H' = [⟨some p9, cl [.pointer none, .pointer none, .pointer none, .slice none 0 0] 92⟩]) := by
  refine Spec.of (E := [(0, ptrH p9), (1, .agg #[.int .i64 n, .int .i64 g]), (2, .int .i64 dir)]) Tryz.func47 rfl (by kernel_rfl) Tryz.ntmps47 rfl rfl (fun w => ?_)
  refine WC_seq ?_
  refine WC_region ?_
  refine WL_do rfl rfl rfl (D_box (cs := [_, _]) rfl rfl rfl) ?_
  rintro _ _ ⟨b1, rfl, rfl⟩
  refine WL_do rfl rfl rfl (D_alloc rfl zv108) ?_
  rintro _ _ ⟨b2, rfl, rfl⟩
  refine WL_val rfl rfl rfl (R_assign rfl rfl) ?_
  refine WL_nil ?_
  refine WQ_code ?_
  refine WC_seq ?_
  refine WC_block ?_
  refine WC_seq ?_
  refine WC_region ?_
  refine WL_val rfl rfl rfl (R_move rfl rfl) ?_
  refine WL_do rfl rfl rfl (D_call (po_zz p9) rfl rfl rfl rfl (pqC)) ?_
  rintro _ _ ⟨_, ⟨rfl, rfl⟩, rfl⟩
  refine WL_val rfl rfl rfl (R_assign rfl rfl) ?_
  refine WL_nil ?_
  refine WQ_code ?_
  refine WC_T rfl ?_
  refine WC_seq ?_
  refine WC_region ?_
  refine WL_val rfl rfl rfl (R_build rfl zv108 pl108 rfl rfl) ?_
  refine WL_do0 rfl rfl (D_store (vs := [_, _]) rfl Tryz.sizeOf108 rfl rfl rfl rfl rfl (plC) (by exact Nat.le_of_ble_eq_true rfl)) ?_
  rintro _ _ rfl
  refine WL_val rfl rfl rfl (R_assign rfl rfl) ?_
  refine WL_nil ?_
  refine WQ_code ?_
  refine WC_ret ?_
  refine WQ_ret rfl rfl (.cons (.cell (vs := [_, _]) rfl ag108 (mmC) rfl (atZ)) (.cons (.tmp rfl) .nil)) rfl (by
      exact ⟨rfl, rfl⟩) (pqC)
theorem ndead_nl (n g dir k : Int) : Spec Tryz.prog 17 [.pointer none, .agg #[.int .i64 n, .int .i64 g], .int .i64 dir, .int .u64 k] [] (fun x H' => x = .tuple #[.slice none 0 0, .int .i64 1] ∧ H' = []) := by
  refine Spec.of (E := [(0, .pointer none), (1, .agg #[.int .i64 n, .int .i64 g]), (2, .int .i64 dir), (3, .int .u64 k)]) Tryz.func17 rfl (by kernel_rfl) Tryz.ntmps17 rfl rfl (fun w => ?_)
  refine WC_seq ?_
  refine WC_region ?_
  refine WL_do rfl rfl rfl (D_box (cs := [_, _]) rfl rfl rfl) ?_
  rintro _ _ ⟨b1, rfl, rfl⟩
  refine WL_val rfl rfl rfl (R_assign rfl rfl) ?_
  refine WL_val rfl rfl rfl (R_assign rfl rfl) ?_
  refine WL_nil ?_
  refine WQ_code ?_
  refine WC_seq ?_
  refine WC_region ?_
  refine WL_val rfl rfl rfl (R_move rfl rfl) ?_
  refine WL_val rfl rfl rfl (R_loadA (vs := [_, _]) rfl ag30 rfl (mmC) rfl (atZ)) ?_
  refine WL_val rfl rfl rfl (R_move rfl rfl) ?_
  refine WL_do rfl rfl rfl (D_call (nspot_nl n g dir) rfl rfl rfl rfl (pqC)) ?_
  rintro _ _ ⟨_, ⟨rfl, rfl⟩, rfl⟩
  refine WL_val rfl rfl rfl (R_move rfl rfl) ?_
  refine WL_val rfl rfl rfl (R_extract rfl rfl rfl) ?_
  refine WL_val rfl rfl rfl (R_extract rfl rfl rfl) ?_
  refine WL_do rfl rfl rfl (D_alloc rfl zv108) ?_
  rintro _ _ ⟨b2, rfl, rfl⟩
  refine WL_do0 rfl rfl (D_store (vs := [_, _]) rfl Tryz.sizeOf108 rfl rfl rfl rfl rfl (plC) (by exact Nat.le_of_ble_eq_true rfl)) ?_
  rintro _ _ rfl
  refine WL_val rfl rfl rfl (R_assign rfl rfl) ?_
  refine WL_nil ?_
  refine WQ_code ?_
  refine WC_seq ?_
  refine WC_seq ?_
  refine WC_region ?_
  refine WL_val rfl rfl rfl (R_move rfl rfl) ?_
  refine WL_val rfl rfl rfl (R_neq rfl rfl rfl) ?_
  refine WL_nil ?_
  refine WQ_code ?_
  refine WC_dT rfl (by simp) ?_
  refine WC_seq ?_
  refine WC_region ?_
  refine WL_val rfl rfl rfl (R_move rfl rfl) ?_
  refine WL_val rfl rfl rfl (R_assign rfl rfl) ?_
  refine WL_val rfl rfl rfl (R_assign rfl rfl) ?_
  refine WL_nil ?_
  refine WQ_code ?_
  refine WC_ret ?_
  refine WQ_ret rfl rfl (.cons (.tmp rfl) (.cons (.tmp rfl) .nil)) rfl (by
      exact ⟨rfl, rfl⟩) (pqC)
theorem ndead_zr (p9 : Nat) (n g dir k : Int) : Spec Tryz.prog 17 [ptrH p9, .agg #[.int .i64 n, .int .i64 g], .int .i64 dir, .int .u64 k] [⟨some p9, cl [.pointer none, .pointer none, .pointer none, .slice none 0 0] 92⟩] (fun x H' => x = .tuple #[.slice none 0 0, .int .i64 1] ∧ H' = [⟨some p9, cl [.pointer none, .pointer none, .pointer none, .slice none 0 0] 92⟩]) := by
  refine Spec.of (E := [(0, ptrH p9), (1, .agg #[.int .i64 n, .int .i64 g]), (2, .int .i64 dir), (3, .int .u64 k)]) Tryz.func17 rfl (by kernel_rfl) Tryz.ntmps17 rfl rfl (fun w => ?_)
  refine WC_seq ?_
  refine WC_region ?_
  refine WL_do rfl rfl rfl (D_box (cs := [_, _]) rfl rfl rfl) ?_
  rintro _ _ ⟨b1, rfl, rfl⟩
  refine WL_val rfl rfl rfl (R_assign rfl rfl) ?_
  refine WL_val rfl rfl rfl (R_assign rfl rfl) ?_
  refine WL_nil ?_
  refine WQ_code ?_
  refine WC_seq ?_
  refine WC_region ?_
  refine WL_val rfl rfl rfl (R_move rfl rfl) ?_
  refine WL_val rfl rfl rfl (R_loadA (vs := [_, _]) rfl ag30 rfl (mmC) rfl (atZ)) ?_
  refine WL_val rfl rfl rfl (R_move rfl rfl) ?_
  refine WL_do rfl rfl rfl (D_call (nspot_zr p9 n g dir) rfl rfl rfl rfl (pqC)) ?_
  rintro _ _ ⟨_, ⟨rfl, rfl⟩, rfl⟩
  refine WL_val rfl rfl rfl (R_move rfl rfl) ?_
  refine WL_val rfl rfl rfl (R_extract rfl rfl rfl) ?_
  refine WL_val rfl rfl rfl (R_extract rfl rfl rfl) ?_
  refine WL_do rfl rfl rfl (D_alloc rfl zv108) ?_
  rintro _ _ ⟨b2, rfl, rfl⟩
  refine WL_do0 rfl rfl (D_store (vs := [_, _]) rfl Tryz.sizeOf108 rfl rfl rfl rfl rfl (plC) (by exact Nat.le_of_ble_eq_true rfl)) ?_
  rintro _ _ rfl
  refine WL_val rfl rfl rfl (R_assign rfl rfl) ?_
  refine WL_nil ?_
  refine WQ_code ?_
  refine WC_seq ?_
  refine WC_seq ?_
  refine WC_region ?_
  refine WL_val rfl rfl rfl (R_move rfl rfl) ?_
  refine WL_val rfl rfl rfl (R_neq rfl rfl rfl) ?_
  refine WL_nil ?_
  refine WQ_code ?_
  refine WC_dT rfl (by simp) ?_
  refine WC_seq ?_
  refine WC_region ?_
  refine WL_val rfl rfl rfl (R_move rfl rfl) ?_
  refine WL_val rfl rfl rfl (R_assign rfl rfl) ?_
  refine WL_val rfl rfl rfl (R_assign rfl rfl) ?_
  refine WL_nil ?_
  refine WQ_code ?_
  refine WC_ret ?_
  refine WQ_ret rfl rfl (.cons (.tmp rfl) (.cons (.tmp rfl) .nil)) rfl (by
      exact ⟨rfl, rfl⟩) (pqC)
theorem nchk_nl (n g dir : Int) : Spec Tryz.prog 23 [.pointer none, .agg #[.int .i64 n, .int .i64 g], .int .i64 dir] [] (fun x H' => x = .int .i64 1 ∧ H' = []) := by
  refine Spec.of (E := [(0, .pointer none), (1, .agg #[.int .i64 n, .int .i64 g]), (2, .int .i64 dir)]) Tryz.func23 rfl (by kernel_rfl) Tryz.ntmps23 rfl rfl (fun w => ?_)
  refine WC_seq ?_
  refine WC_region ?_
  refine WL_do rfl rfl rfl (D_box (cs := [_, _]) rfl rfl rfl) ?_
  rintro _ _ ⟨b1, rfl, rfl⟩
  refine WL_val rfl rfl rfl (R_assign rfl rfl) ?_
  refine WL_nil ?_
  refine WQ_code ?_
  refine WC_seq ?_
  refine WC_region ?_
  refine WL_val rfl rfl rfl (R_move rfl rfl) ?_
  refine WL_val rfl rfl rfl (R_loadA (vs := [_, _]) rfl ag30 rfl (mmC) rfl (atZ)) ?_
  refine WL_val rfl rfl rfl (R_move rfl rfl) ?_
  refine WL_do rfl rfl rfl (D_call (nspot_nl n g dir) rfl rfl rfl rfl (pqC)) ?_
  rintro _ _ ⟨_, ⟨rfl, rfl⟩, rfl⟩
  refine WL_val rfl rfl rfl (R_move rfl rfl) ?_
  refine WL_val rfl rfl rfl (R_extract rfl rfl rfl) ?_
  refine WL_val rfl rfl rfl (R_extract rfl rfl rfl) ?_
  refine WL_do rfl rfl rfl (D_alloc rfl zv108) ?_
  rintro _ _ ⟨b2, rfl, rfl⟩
  refine WL_do0 rfl rfl (D_store (vs := [_, _]) rfl Tryz.sizeOf108 rfl rfl rfl rfl rfl (plC) (by exact Nat.le_of_ble_eq_true rfl)) ?_
  rintro _ _ rfl
  refine WL_val rfl rfl rfl (R_assign rfl rfl) ?_
  refine WL_nil ?_
  refine WQ_code ?_
  refine WC_seq ?_
  refine WC_seq ?_
  refine WC_region ?_
  refine WL_val rfl rfl rfl (R_move rfl rfl) ?_
  refine WL_val rfl rfl rfl (R_neq rfl rfl rfl) ?_
  refine WL_nil ?_
  refine WQ_code ?_
  refine WC_dT rfl (by simp) ?_
  refine WC_seq ?_
  refine WC_region ?_
  refine WL_val rfl rfl rfl (R_move rfl rfl) ?_
  refine WL_val rfl rfl rfl (R_assign rfl rfl) ?_
  refine WL_nil ?_
  refine WQ_code ?_
  refine WC_ret ?_
  refine WQ_ret rfl rfl (.cons (.tmp rfl) .nil) rfl (by
      exact ⟨rfl, rfl⟩) (pqC)
theorem nchk_zr (p9 : Nat) (n g dir : Int) : Spec Tryz.prog 23 [ptrH p9, .agg #[.int .i64 n, .int .i64 g], .int .i64 dir] [⟨some p9, cl [.pointer none, .pointer none, .pointer none, .slice none 0 0] 92⟩] (fun x H' => x = .int .i64 1 ∧ H' = [⟨some p9, cl [.pointer none, .pointer none, .pointer none, .slice none 0 0] 92⟩]) := by
  refine Spec.of (E := [(0, ptrH p9), (1, .agg #[.int .i64 n, .int .i64 g]), (2, .int .i64 dir)]) Tryz.func23 rfl (by kernel_rfl) Tryz.ntmps23 rfl rfl (fun w => ?_)
  refine WC_seq ?_
  refine WC_region ?_
  refine WL_do rfl rfl rfl (D_box (cs := [_, _]) rfl rfl rfl) ?_
  rintro _ _ ⟨b1, rfl, rfl⟩
  refine WL_val rfl rfl rfl (R_assign rfl rfl) ?_
  refine WL_nil ?_
  refine WQ_code ?_
  refine WC_seq ?_
  refine WC_region ?_
  refine WL_val rfl rfl rfl (R_move rfl rfl) ?_
  refine WL_val rfl rfl rfl (R_loadA (vs := [_, _]) rfl ag30 rfl (mmC) rfl (atZ)) ?_
  refine WL_val rfl rfl rfl (R_move rfl rfl) ?_
  refine WL_do rfl rfl rfl (D_call (nspot_zr p9 n g dir) rfl rfl rfl rfl (pqC)) ?_
  rintro _ _ ⟨_, ⟨rfl, rfl⟩, rfl⟩
  refine WL_val rfl rfl rfl (R_move rfl rfl) ?_
  refine WL_val rfl rfl rfl (R_extract rfl rfl rfl) ?_
  refine WL_val rfl rfl rfl (R_extract rfl rfl rfl) ?_
  refine WL_do rfl rfl rfl (D_alloc rfl zv108) ?_
  rintro _ _ ⟨b2, rfl, rfl⟩
  refine WL_do0 rfl rfl (D_store (vs := [_, _]) rfl Tryz.sizeOf108 rfl rfl rfl rfl rfl (plC) (by exact Nat.le_of_ble_eq_true rfl)) ?_
  rintro _ _ rfl
  refine WL_val rfl rfl rfl (R_assign rfl rfl) ?_
  refine WL_nil ?_
  refine WQ_code ?_
  refine WC_seq ?_
  refine WC_seq ?_
  refine WC_region ?_
  refine WL_val rfl rfl rfl (R_move rfl rfl) ?_
  refine WL_val rfl rfl rfl (R_neq rfl rfl rfl) ?_
  refine WL_nil ?_
  refine WQ_code ?_
  refine WC_dT rfl (by simp) ?_
  refine WC_seq ?_
  refine WC_region ?_
  refine WL_val rfl rfl rfl (R_move rfl rfl) ?_
  refine WL_val rfl rfl rfl (R_assign rfl rfl) ?_
  refine WL_nil ?_
  refine WQ_code ?_
  refine WC_ret ?_
  refine WQ_ret rfl rfl (.cons (.tmp rfl) .nil) rfl (by
      exact ⟨rfl, rfl⟩) (pqC)
theorem nstate_nl (i : Int) : Spec Tryz.prog 28 [.pointer none, .int .i64 i] [] (fun x H' => x = .tuple #[.int .i64 0, .int .i64 1] ∧ H' = []) := by
  refine Spec.of (E := [(0, .pointer none), (1, .int .i64 i)]) Tryz.func28 rfl (by kernel_rfl) Tryz.ntmps28 rfl rfl (fun w => ?_)
  refine WC_seq ?_
  refine WC_region ?_
  refine WL_val rfl rfl rfl (R_assign rfl rfl) ?_
  refine WL_val rfl rfl rfl (R_assign rfl rfl) ?_
  refine WL_nil ?_
  refine WQ_code ?_
  refine WC_seq ?_
  refine WC_seq ?_
  refine WC_region ?_
  refine WL_val rfl rfl rfl (R_move rfl rfl) ?_
  refine WL_do rfl rfl rfl (D_call (po_znil) rfl rfl rfl rfl (pqC)) ?_
  rintro _ _ ⟨_, ⟨rfl, rfl⟩, rfl⟩
  refine WL_nil ?_
  refine WQ_code ?_
  refine WC_T rfl ?_
  refine WC_seq ?_
  refine WC_region ?_
  refine WL_val rfl rfl rfl (R_assign rfl rfl) ?_
  refine WL_val rfl rfl rfl (R_assign rfl rfl) ?_
  refine WL_nil ?_
  refine WQ_code ?_
  refine WC_ret ?_
  refine WQ_ret rfl rfl (.cons (.tmp rfl) (.cons (.tmp rfl) .nil)) rfl (by
      exact ⟨rfl, rfl⟩) (pqC)
theorem nstate_zr (p9 : Nat) (i : Int) : Spec Tryz.prog 28 [ptrH p9, .int .i64 i] [⟨some p9, cl [.pointer none, .pointer none, .pointer none, .slice none 0 0] 92⟩] (fun x H' => x = .tuple #[.int .i64 0, .int .i64 1] ∧ H' = [⟨some p9, cl [.pointer none, .pointer none, .pointer none, .slice none 0 0] 92⟩]) := by
  refine Spec.of (E := [(0, ptrH p9), (1, .int .i64 i)]) Tryz.func28 rfl (by kernel_rfl) Tryz.ntmps28 rfl rfl (fun w => ?_)
  refine WC_seq ?_
  refine WC_region ?_
  refine WL_val rfl rfl rfl (R_assign rfl rfl) ?_
  refine WL_val rfl rfl rfl (R_assign rfl rfl) ?_
  refine WL_nil ?_
  refine WQ_code ?_
  refine WC_seq ?_
  refine WC_seq ?_
  refine WC_region ?_
  refine WL_val rfl rfl rfl (R_move rfl rfl) ?_
  refine WL_do rfl rfl rfl (D_call (po_zz p9) rfl rfl rfl rfl (pqC)) ?_
  rintro _ _ ⟨_, ⟨rfl, rfl⟩, rfl⟩
  refine WL_nil ?_
  refine WQ_code ?_
  refine WC_T rfl ?_
  refine WC_seq ?_
  refine WC_region ?_
  refine WL_val rfl rfl rfl (R_assign rfl rfl) ?_
  refine WL_val rfl rfl rfl (R_assign rfl rfl) ?_
  refine WL_nil ?_
  refine WQ_code ?_
  refine WC_ret ?_
  refine WQ_ret rfl rfl (.cons (.tmp rfl) (.cons (.tmp rfl) .nil)) rfl (by
      exact ⟨rfl, rfl⟩) (pqC)
theorem nwait_nl (i n g dir : Int) : Spec Tryz.prog 16 [.pointer none, .int .i64 i, .agg #[.int .i64 n, .int .i64 g], .int .i64 dir] [] (fun x H' => x = .int .i64 1 ∧ H' = []) := by
  refine Spec.of (E := [(0, .pointer none), (1, .int .i64 i), (2, .agg #[.int .i64 n, .int .i64 g]), (3, .int .i64 dir)]) Tryz.func16 rfl (by kernel_rfl) Tryz.ntmps16 rfl rfl (fun w => ?_)
  refine WC_seq ?_
  refine WC_region ?_
  refine WL_do rfl rfl rfl (D_box (cs := [_, _]) rfl rfl rfl) ?_
  rintro _ _ ⟨b1, rfl, rfl⟩
  refine WL_val rfl rfl rfl (R_assign rfl rfl) ?_
  refine WL_nil ?_
  refine WQ_code ?_
  refine WC_seq ?_
  refine WC_region ?_
  refine WL_val rfl rfl rfl (R_move rfl rfl) ?_
  refine WL_val rfl rfl rfl (R_move rfl rfl) ?_
  refine WL_do rfl rfl rfl (D_call (nstate_nl i) rfl rfl rfl rfl (pqC)) ?_
  rintro _ _ ⟨_, ⟨rfl, rfl⟩, rfl⟩
  refine WL_val rfl rfl rfl (R_move rfl rfl) ?_
  refine WL_val rfl rfl rfl (R_extract rfl rfl rfl) ?_
  refine WL_val rfl rfl rfl (R_extract rfl rfl rfl) ?_
  refine WL_val rfl rfl rfl (R_assign rfl rfl) ?_
  refine WL_val rfl rfl rfl (R_assign rfl rfl) ?_
  refine WL_nil ?_
  refine WQ_code ?_
  refine WC_seq ?_
  refine WC_seq ?_
  refine WC_region ?_
  refine WL_val rfl rfl rfl (R_move rfl rfl) ?_
  refine WL_val rfl rfl rfl (R_neq rfl rfl rfl) ?_
  refine WL_nil ?_
  refine WQ_code ?_
  refine WC_dT rfl (by simp) ?_
  refine WC_seq ?_
  refine WC_region ?_
  refine WL_val rfl rfl rfl (R_move rfl rfl) ?_
  refine WL_val rfl rfl rfl (R_assign rfl rfl) ?_
  refine WL_nil ?_
  refine WQ_code ?_
  refine WC_ret ?_
  refine WQ_ret rfl rfl (.cons (.tmp rfl) .nil) rfl (by
      exact ⟨rfl, rfl⟩) (pqC)
theorem nwait_zr (p9 : Nat) (i n g dir : Int) : Spec Tryz.prog 16 [ptrH p9, .int .i64 i, .agg #[.int .i64 n, .int .i64 g], .int .i64 dir] [⟨some p9, cl [.pointer none, .pointer none, .pointer none, .slice none 0 0] 92⟩] (fun x H' => x = .int .i64 1 ∧ H' = [⟨some p9, cl [.pointer none, .pointer none, .pointer none, .slice none 0 0] 92⟩]) := by
  refine Spec.of (E := [(0, ptrH p9), (1, .int .i64 i), (2, .agg #[.int .i64 n, .int .i64 g]), (3, .int .i64 dir)]) Tryz.func16 rfl (by kernel_rfl) Tryz.ntmps16 rfl rfl (fun w => ?_)
  refine WC_seq ?_
  refine WC_region ?_
  refine WL_do rfl rfl rfl (D_box (cs := [_, _]) rfl rfl rfl) ?_
  rintro _ _ ⟨b1, rfl, rfl⟩
  refine WL_val rfl rfl rfl (R_assign rfl rfl) ?_
  refine WL_nil ?_
  refine WQ_code ?_
  refine WC_seq ?_
  refine WC_region ?_
  refine WL_val rfl rfl rfl (R_move rfl rfl) ?_
  refine WL_val rfl rfl rfl (R_move rfl rfl) ?_
  refine WL_do rfl rfl rfl (D_call (nstate_zr p9 i) rfl rfl rfl rfl (pqC)) ?_
  rintro _ _ ⟨_, ⟨rfl, rfl⟩, rfl⟩
  refine WL_val rfl rfl rfl (R_move rfl rfl) ?_
  refine WL_val rfl rfl rfl (R_extract rfl rfl rfl) ?_
  refine WL_val rfl rfl rfl (R_extract rfl rfl rfl) ?_
  refine WL_val rfl rfl rfl (R_assign rfl rfl) ?_
  refine WL_val rfl rfl rfl (R_assign rfl rfl) ?_
  refine WL_nil ?_
  refine WQ_code ?_
  refine WC_seq ?_
  refine WC_seq ?_
  refine WC_region ?_
  refine WL_val rfl rfl rfl (R_move rfl rfl) ?_
  refine WL_val rfl rfl rfl (R_neq rfl rfl rfl) ?_
  refine WL_nil ?_
  refine WQ_code ?_
  refine WC_dT rfl (by simp) ?_
  refine WC_seq ?_
  refine WC_region ?_
  refine WL_val rfl rfl rfl (R_move rfl rfl) ?_
  refine WL_val rfl rfl rfl (R_assign rfl rfl) ?_
  refine WL_nil ?_
  refine WQ_code ?_
  refine WC_ret ?_
  refine WQ_ret rfl rfl (.cons (.tmp rfl) .nil) rfl (by
      exact ⟨rfl, rfl⟩) (pqC)
theorem nsig_nl (n g dir : Int) : Spec Tryz.prog 24 [.pointer none, .agg #[.int .i64 n, .int .i64 g], .int .i64 dir] [] (fun x H' => x = .tuple #[.int .i64 0, .int .i64 1] ∧ H' = []) := by
  refine Spec.of (E := [(0, .pointer none), (1, .agg #[.int .i64 n, .int .i64 g]), (2, .int .i64 dir)]) Tryz.func24 rfl (by kernel_rfl) Tryz.ntmps24 rfl rfl (fun w => ?_)
  refine WC_seq ?_
  refine WC_region ?_
  refine WL_do rfl rfl rfl (D_box (cs := [_, _]) rfl rfl rfl) ?_
  rintro _ _ ⟨b1, rfl, rfl⟩
  refine WL_val rfl rfl rfl (R_assign rfl rfl) ?_
  refine WL_val rfl rfl rfl (R_assign rfl rfl) ?_
  refine WL_nil ?_
  refine WQ_code ?_
  refine WC_seq ?_
  refine WC_region ?_
  refine WL_val rfl rfl rfl (R_move rfl rfl) ?_
  refine WL_val rfl rfl rfl (R_loadA (vs := [_, _]) rfl ag30 rfl (mmC) rfl (atZ)) ?_
  refine WL_val rfl rfl rfl (R_move rfl rfl) ?_
  refine WL_do rfl rfl rfl (D_call (nspot_nl n g dir) rfl rfl rfl rfl (pqC)) ?_
  rintro _ _ ⟨_, ⟨rfl, rfl⟩, rfl⟩
  refine WL_val rfl rfl rfl (R_move rfl rfl) ?_
  refine WL_val rfl rfl rfl (R_extract rfl rfl rfl) ?_
  refine WL_val rfl rfl rfl (R_extract rfl rfl rfl) ?_
  refine WL_do rfl rfl rfl (D_alloc rfl zv108) ?_
  rintro _ _ ⟨b2, rfl, rfl⟩
  refine WL_do0 rfl rfl (D_store (vs := [_, _]) rfl Tryz.sizeOf108 rfl rfl rfl rfl rfl (plC) (by exact Nat.le_of_ble_eq_true rfl)) ?_
  rintro _ _ rfl
  refine WL_val rfl rfl rfl (R_assign rfl rfl) ?_
  refine WL_nil ?_
  refine WQ_code ?_
  refine WC_seq ?_
  refine WC_seq ?_
  refine WC_region ?_
  refine WL_val rfl rfl rfl (R_move rfl rfl) ?_
  refine WL_val rfl rfl rfl (R_neq rfl rfl rfl) ?_
  refine WL_nil ?_
  refine WQ_code ?_
  refine WC_dT rfl (by simp) ?_
  refine WC_seq ?_
  refine WC_region ?_
  refine WL_val rfl rfl rfl (R_move rfl rfl) ?_
  refine WL_val rfl rfl rfl (R_assign rfl rfl) ?_
  refine WL_val rfl rfl rfl (R_assign rfl rfl) ?_
  refine WL_nil ?_
  refine WQ_code ?_
  refine WC_ret ?_
  refine WQ_ret rfl rfl (.cons (.tmp rfl) (.cons (.tmp rfl) .nil)) rfl (by
      exact ⟨rfl, rfl⟩) (pqC)
theorem nsig_zr (p9 : Nat) (n g dir : Int) : Spec Tryz.prog 24 [ptrH p9, .agg #[.int .i64 n, .int .i64 g], .int .i64 dir] [⟨some p9, cl [.pointer none, .pointer none, .pointer none, .slice none 0 0] 92⟩] (fun x H' => x = .tuple #[.int .i64 0, .int .i64 1] ∧ H' = [⟨some p9, cl [.pointer none, .pointer none, .pointer none, .slice none 0 0] 92⟩]) := by
  refine Spec.of (E := [(0, ptrH p9), (1, .agg #[.int .i64 n, .int .i64 g]), (2, .int .i64 dir)]) Tryz.func24 rfl (by kernel_rfl) Tryz.ntmps24 rfl rfl (fun w => ?_)
  refine WC_seq ?_
  refine WC_region ?_
  refine WL_do rfl rfl rfl (D_box (cs := [_, _]) rfl rfl rfl) ?_
  rintro _ _ ⟨b1, rfl, rfl⟩
  refine WL_val rfl rfl rfl (R_assign rfl rfl) ?_
  refine WL_val rfl rfl rfl (R_assign rfl rfl) ?_
  refine WL_nil ?_
  refine WQ_code ?_
  refine WC_seq ?_
  refine WC_region ?_
  refine WL_val rfl rfl rfl (R_move rfl rfl) ?_
  refine WL_val rfl rfl rfl (R_loadA (vs := [_, _]) rfl ag30 rfl (mmC) rfl (atZ)) ?_
  refine WL_val rfl rfl rfl (R_move rfl rfl) ?_
  refine WL_do rfl rfl rfl (D_call (nspot_zr p9 n g dir) rfl rfl rfl rfl (pqC)) ?_
  rintro _ _ ⟨_, ⟨rfl, rfl⟩, rfl⟩
  refine WL_val rfl rfl rfl (R_move rfl rfl) ?_
  refine WL_val rfl rfl rfl (R_extract rfl rfl rfl) ?_
  refine WL_val rfl rfl rfl (R_extract rfl rfl rfl) ?_
  refine WL_do rfl rfl rfl (D_alloc rfl zv108) ?_
  rintro _ _ ⟨b2, rfl, rfl⟩
  refine WL_do0 rfl rfl (D_store (vs := [_, _]) rfl Tryz.sizeOf108 rfl rfl rfl rfl rfl (plC) (by exact Nat.le_of_ble_eq_true rfl)) ?_
  rintro _ _ rfl
  refine WL_val rfl rfl rfl (R_assign rfl rfl) ?_
  refine WL_nil ?_
  refine WQ_code ?_
  refine WC_seq ?_
  refine WC_seq ?_
  refine WC_region ?_
  refine WL_val rfl rfl rfl (R_move rfl rfl) ?_
  refine WL_val rfl rfl rfl (R_neq rfl rfl rfl) ?_
  refine WL_nil ?_
  refine WQ_code ?_
  refine WC_dT rfl (by simp) ?_
  refine WC_seq ?_
  refine WC_region ?_
  refine WL_val rfl rfl rfl (R_move rfl rfl) ?_
  refine WL_val rfl rfl rfl (R_assign rfl rfl) ?_
  refine WL_val rfl rfl rfl (R_assign rfl rfl) ?_
  refine WL_nil ?_
  refine WQ_code ?_
  refine WC_ret ?_
  refine WQ_ret rfl rfl (.cons (.tmp rfl) (.cons (.tmp rfl) .nil)) rfl (by
      exact ⟨rfl, rfl⟩) (pqC)
theorem nsigall_nl (n g dir : Int) : Spec Tryz.prog 25 [.pointer none, .agg #[.int .i64 n, .int .i64 g], .int .i64 dir] [] (fun x H' => x = .tuple #[.slice none 0 0, .int .i64 1] ∧ H' = []) := by
  refine Spec.of (E := [(0, .pointer none), (1, .agg #[.int .i64 n, .int .i64 g]), (2, .int .i64 dir)]) Tryz.func25 rfl (by kernel_rfl) Tryz.ntmps25 rfl rfl (fun w => ?_)
  refine WC_seq ?_
  refine WC_region ?_
  refine WL_do rfl rfl rfl (D_box (cs := [_, _]) rfl rfl rfl) ?_
  rintro _ _ ⟨b1, rfl, rfl⟩
  refine WL_val rfl rfl rfl (R_assign rfl rfl) ?_
  refine WL_val rfl rfl rfl (R_assign rfl rfl) ?_
  refine WL_nil ?_
  refine WQ_code ?_
  refine WC_seq ?_
  refine WC_region ?_
  refine WL_val rfl rfl rfl (R_move rfl rfl) ?_
  refine WL_val rfl rfl rfl (R_loadA (vs := [_, _]) rfl ag30 rfl (mmC) rfl (atZ)) ?_
  refine WL_val rfl rfl rfl (R_move rfl rfl) ?_
  refine WL_do rfl rfl rfl (D_call (nspot_nl n g dir) rfl rfl rfl rfl (pqC)) ?_
  rintro _ _ ⟨_, ⟨rfl, rfl⟩, rfl⟩
  refine WL_val rfl rfl rfl (R_move rfl rfl) ?_
  refine WL_val rfl rfl rfl (R_extract rfl rfl rfl) ?_
  refine WL_val rfl rfl rfl (R_extract rfl rfl rfl) ?_
  refine WL_do rfl rfl rfl (D_alloc rfl zv108) ?_
  rintro _ _ ⟨b2, rfl, rfl⟩
  refine WL_do0 rfl rfl (D_store (vs := [_, _]) rfl Tryz.sizeOf108 rfl rfl rfl rfl rfl (plC) (by exact Nat.le_of_ble_eq_true rfl)) ?_
  rintro _ _ rfl
  refine WL_val rfl rfl rfl (R_assign rfl rfl) ?_
  refine WL_nil ?_
  refine WQ_code ?_
  refine WC_seq ?_
  refine WC_seq ?_
  refine WC_region ?_
  refine WL_val rfl rfl rfl (R_move rfl rfl) ?_
  refine WL_val rfl rfl rfl (R_neq rfl rfl rfl) ?_
  refine WL_nil ?_
  refine WQ_code ?_
  refine WC_dT rfl (by simp) ?_
  refine WC_seq ?_
  refine WC_region ?_
  refine WL_val rfl rfl rfl (R_move rfl rfl) ?_
  refine WL_val rfl rfl rfl (R_assign rfl rfl) ?_
  refine WL_val rfl rfl rfl (R_assign rfl rfl) ?_
  refine WL_nil ?_
  refine WQ_code ?_
  refine WC_ret ?_
  refine WQ_ret rfl rfl (.cons (.tmp rfl) (.cons (.tmp rfl) .nil)) rfl (by
      exact ⟨rfl, rfl⟩) (pqC)
theorem nsigall_zr (p9 : Nat) (n g dir : Int) : Spec Tryz.prog 25 [ptrH p9, .agg #[.int .i64 n, .int .i64 g], .int .i64 dir] [⟨some p9, cl [.pointer none, .pointer none, .pointer none, .slice none 0 0] 92⟩] (fun x H' => x = .tuple #[.slice none 0 0, .int .i64 1] ∧ H' = [⟨some p9, cl [.pointer none, .pointer none, .pointer none, .slice none 0 0] 92⟩]) := by
  refine Spec.of (E := [(0, ptrH p9), (1, .agg #[.int .i64 n, .int .i64 g]), (2, .int .i64 dir)]) Tryz.func25 rfl (by kernel_rfl) Tryz.ntmps25 rfl rfl (fun w => ?_)
  refine WC_seq ?_
  refine WC_region ?_
  refine WL_do rfl rfl rfl (D_box (cs := [_, _]) rfl rfl rfl) ?_
  rintro _ _ ⟨b1, rfl, rfl⟩
  refine WL_val rfl rfl rfl (R_assign rfl rfl) ?_
  refine WL_val rfl rfl rfl (R_assign rfl rfl) ?_
  refine WL_nil ?_
  refine WQ_code ?_
  refine WC_seq ?_
  refine WC_region ?_
  refine WL_val rfl rfl rfl (R_move rfl rfl) ?_
  refine WL_val rfl rfl rfl (R_loadA (vs := [_, _]) rfl ag30 rfl (mmC) rfl (atZ)) ?_
  refine WL_val rfl rfl rfl (R_move rfl rfl) ?_
  refine WL_do rfl rfl rfl (D_call (nspot_zr p9 n g dir) rfl rfl rfl rfl (pqC)) ?_
  rintro _ _ ⟨_, ⟨rfl, rfl⟩, rfl⟩
  refine WL_val rfl rfl rfl (R_move rfl rfl) ?_
  refine WL_val rfl rfl rfl (R_extract rfl rfl rfl) ?_
  refine WL_val rfl rfl rfl (R_extract rfl rfl rfl) ?_
  refine WL_do rfl rfl rfl (D_alloc rfl zv108) ?_
  rintro _ _ ⟨b2, rfl, rfl⟩
  refine WL_do0 rfl rfl (D_store (vs := [_, _]) rfl Tryz.sizeOf108 rfl rfl rfl rfl rfl (plC) (by exact Nat.le_of_ble_eq_true rfl)) ?_
  rintro _ _ rfl
  refine WL_val rfl rfl rfl (R_assign rfl rfl) ?_
  refine WL_nil ?_
  refine WQ_code ?_
  refine WC_seq ?_
  refine WC_seq ?_
  refine WC_region ?_
  refine WL_val rfl rfl rfl (R_move rfl rfl) ?_
  refine WL_val rfl rfl rfl (R_neq rfl rfl rfl) ?_
  refine WL_nil ?_
  refine WQ_code ?_
  refine WC_dT rfl (by simp) ?_
  refine WC_seq ?_
  refine WC_region ?_
  refine WL_val rfl rfl rfl (R_move rfl rfl) ?_
  refine WL_val rfl rfl rfl (R_assign rfl rfl) ?_
  refine WL_val rfl rfl rfl (R_assign rfl rfl) ?_
  refine WL_nil ?_
  refine WQ_code ?_
  refine WC_ret ?_
  refine WQ_ret rfl rfl (.cons (.tmp rfl) (.cons (.tmp rfl) .nil)) rfl (by
      exact ⟨rfl, rfl⟩) (pqC)
theorem nadv_nl (k : Int) : Spec Tryz.prog 18 [.pointer none, .int .u64 k] [] (fun x H' => x = .tuple #[.slice none 0 0, .int .i64 1] ∧ H' = []) := by
  refine Spec.of (E := [(0, .pointer none), (1, .int .u64 k)]) Tryz.func18 rfl (by kernel_rfl) Tryz.ntmps18 rfl rfl (fun w => ?_)
  refine WC_seq ?_
  refine WC_region ?_
  refine WL_val rfl rfl rfl (R_assign rfl rfl) ?_
  refine WL_val rfl rfl rfl (R_assign rfl rfl) ?_
  refine WL_nil ?_
  refine WQ_code ?_
  refine WC_seq ?_
  refine WC_seq ?_
  refine WC_region ?_
  refine WL_val rfl rfl rfl (R_move rfl rfl) ?_
  refine WL_do rfl rfl rfl (D_call (po_znil) rfl rfl rfl rfl (pqC)) ?_
  rintro _ _ ⟨_, ⟨rfl, rfl⟩, rfl⟩
  refine WL_nil ?_
  refine WQ_code ?_
  refine WC_T rfl ?_
  refine WC_seq ?_
  refine WC_region ?_
  refine WL_val rfl rfl rfl (R_assign rfl rfl) ?_
  refine WL_val rfl rfl rfl (R_assign rfl rfl) ?_
  refine WL_nil ?_
  refine WQ_code ?_
  refine WC_ret ?_
  refine WQ_ret rfl rfl (.cons (.tmp rfl) (.cons (.tmp rfl) .nil)) rfl (by
      exact ⟨rfl, rfl⟩) (pqC)
theorem nadv_zr (p9 : Nat) (k : Int) : Spec Tryz.prog 18 [ptrH p9, .int .u64 k] [⟨some p9, cl [.pointer none, .pointer none, .pointer none, .slice none 0 0] 92⟩] (fun x H' => x = .tuple #[.slice none 0 0, .int .i64 1] ∧ H' = [⟨some p9, cl [.pointer none, .pointer none, .pointer none, .slice none 0 0] 92⟩]) := by
  refine Spec.of (E := [(0, ptrH p9), (1, .int .u64 k)]) Tryz.func18 rfl (by kernel_rfl) Tryz.ntmps18 rfl rfl (fun w => ?_)
  refine WC_seq ?_
  refine WC_region ?_
  refine WL_val rfl rfl rfl (R_assign rfl rfl) ?_
  refine WL_val rfl rfl rfl (R_assign rfl rfl) ?_
  refine WL_nil ?_
  refine WQ_code ?_
  refine WC_seq ?_
  refine WC_seq ?_
  refine WC_region ?_
  refine WL_val rfl rfl rfl (R_move rfl rfl) ?_
  refine WL_do rfl rfl rfl (D_call (po_zz p9) rfl rfl rfl rfl (pqC)) ?_
  rintro _ _ ⟨_, ⟨rfl, rfl⟩, rfl⟩
  refine WL_nil ?_
  refine WQ_code ?_
  refine WC_T rfl ?_
  refine WC_seq ?_
  refine WC_region ?_
  refine WL_val rfl rfl rfl (R_assign rfl rfl) ?_
  refine WL_val rfl rfl rfl (R_assign rfl rfl) ?_
  refine WL_nil ?_
  refine WQ_code ?_
  refine WC_ret ?_
  refine WQ_ret rfl rfl (.cons (.tmp rfl) (.cons (.tmp rfl) .nil)) rfl (by
      exact ⟨rfl, rfl⟩) (pqC)
theorem nstart_nl (i : Int) : Spec Tryz.prog 15 [.pointer none, .int .i64 i] [] (fun x H' => x = .int .i64 1 ∧ H' = []) := by
  refine Spec.of (E := [(0, .pointer none), (1, .int .i64 i)]) Tryz.func15 rfl (by kernel_rfl) Tryz.ntmps15 rfl rfl (fun w => ?_)
  refine WC_seq ?_
  refine WC_region ?_
  refine WL_val rfl rfl rfl (R_assign rfl rfl) ?_
  refine WL_nil ?_
  refine WQ_code ?_
  refine WC_seq ?_
  refine WC_seq ?_
  refine WC_region ?_
  refine WL_val rfl rfl rfl (R_move rfl rfl) ?_
  refine WL_do rfl rfl rfl (D_call (po_znil) rfl rfl rfl rfl (pqC)) ?_
  rintro _ _ ⟨_, ⟨rfl, rfl⟩, rfl⟩
  refine WL_nil ?_
  refine WQ_code ?_
  refine WC_T rfl ?_
  refine WC_seq ?_
  refine WC_region ?_
  refine WL_val rfl rfl rfl (R_assign rfl rfl) ?_
  refine WL_nil ?_
  refine WQ_code ?_
  refine WC_ret ?_
  refine WQ_ret rfl rfl (.cons (.tmp rfl) .nil) rfl (by
      exact ⟨rfl, rfl⟩) (pqC)
theorem nstart_zr (p9 : Nat) (i : Int) : Spec Tryz.prog 15 [ptrH p9, .int .i64 i] [⟨some p9, cl [.pointer none, .pointer none, .pointer none, .slice none 0 0] 92⟩] (fun x H' => x = .int .i64 1 ∧ H' = [⟨some p9, cl [.pointer none, .pointer none, .pointer none, .slice none 0 0] 92⟩]) := by
  refine Spec.of (E := [(0, ptrH p9), (1, .int .i64 i)]) Tryz.func15 rfl (by kernel_rfl) Tryz.ntmps15 rfl rfl (fun w => ?_)
  refine WC_seq ?_
  refine WC_region ?_
  refine WL_val rfl rfl rfl (R_assign rfl rfl) ?_
  refine WL_nil ?_
  refine WQ_code ?_
  refine WC_seq ?_
  refine WC_seq ?_
  refine WC_region ?_
  refine WL_val rfl rfl rfl (R_move rfl rfl) ?_
  refine WL_do rfl rfl rfl (D_call (po_zz p9) rfl rfl rfl rfl (pqC)) ?_
  rintro _ _ ⟨_, ⟨rfl, rfl⟩, rfl⟩
  refine WL_nil ?_
  refine WQ_code ?_
  refine WC_T rfl ?_
  refine WC_seq ?_
  refine WC_region ?_
  refine WL_val rfl rfl rfl (R_assign rfl rfl) ?_
  refine WL_nil ?_
  refine WQ_code ?_
  refine WC_ret ?_
  refine WQ_ret rfl rfl (.cons (.tmp rfl) .nil) rfl (by
      exact ⟨rfl, rfl⟩) (pqC)
theorem nfin_nl (i : Int) : Spec Tryz.prog 26 [.pointer none, .int .i64 i] [] (fun x H' => x = .int .i64 1 ∧ H' = []) := by
  refine Spec.of (E := [(0, .pointer none), (1, .int .i64 i)]) Tryz.func26 rfl (by kernel_rfl) Tryz.ntmps26 rfl rfl (fun w => ?_)
  refine WC_seq ?_
  refine WC_region ?_
  refine WL_val rfl rfl rfl (R_assign rfl rfl) ?_
  refine WL_nil ?_
  refine WQ_code ?_
  refine WC_seq ?_
  refine WC_seq ?_
  refine WC_region ?_
  refine WL_val rfl rfl rfl (R_move rfl rfl) ?_
  refine WL_do rfl rfl rfl (D_call (po_znil) rfl rfl rfl rfl (pqC)) ?_
  rintro _ _ ⟨_, ⟨rfl, rfl⟩, rfl⟩
  refine WL_nil ?_
  refine WQ_code ?_
  refine WC_T rfl ?_
  refine WC_seq ?_
  refine WC_region ?_
  refine WL_val rfl rfl rfl (R_assign rfl rfl) ?_
  refine WL_nil ?_
  refine WQ_code ?_
  refine WC_ret ?_
  refine WQ_ret rfl rfl (.cons (.tmp rfl) .nil) rfl (by
      exact ⟨rfl, rfl⟩) (pqC)
theorem nfin_zr (p9 : Nat) (i : Int) : Spec Tryz.prog 26 [ptrH p9, .int .i64 i] [⟨some p9, cl [.pointer none, .pointer none, .pointer none, .slice none 0 0] 92⟩] (fun x H' => x = .int .i64 1 ∧ H' = [⟨some p9, cl [.pointer none, .pointer none, .pointer none, .slice none 0 0] 92⟩]) := by
  refine Spec.of (E := [(0, ptrH p9), (1, .int .i64 i)]) Tryz.func26 rfl (by kernel_rfl) Tryz.ntmps26 rfl rfl (fun w => ?_)
  refine WC_seq ?_
  refine WC_region ?_
  refine WL_val rfl rfl rfl (R_assign rfl rfl) ?_
  refine WL_nil ?_
  refine WQ_code ?_
  refine WC_seq ?_
  refine WC_seq ?_
  refine WC_region ?_
  refine WL_val rfl rfl rfl (R_move rfl rfl) ?_
  refine WL_do rfl rfl rfl (D_call (po_zz p9) rfl rfl rfl rfl (pqC)) ?_
  rintro _ _ ⟨_, ⟨rfl, rfl⟩, rfl⟩
  refine WL_nil ?_
  refine WQ_code ?_
  refine WC_T rfl ?_
  refine WC_seq ?_
  refine WC_region ?_
  refine WL_val rfl rfl rfl (R_assign rfl rfl) ?_
  refine WL_nil ?_
  refine WQ_code ?_
  refine WC_ret ?_
  refine WQ_ret rfl rfl (.cons (.tmp rfl) .nil) rfl (by
      exact ⟨rfl, rfl⟩) (pqC)
theorem nturn_nl (i : Int) : Spec Tryz.prog 27 [.pointer none, .int .i64 i] [] (fun x H' => x = .int .i64 1 ∧ H' = []) := by
  refine Spec.of (E := [(0, .pointer none), (1, .int .i64 i)]) Tryz.func27 rfl (by kernel_rfl) Tryz.ntmps27 rfl rfl (fun w => ?_)
  refine WC_seq ?_
  refine WC_region ?_
  refine WL_val rfl rfl rfl (R_assign rfl rfl) ?_
  refine WL_nil ?_
  refine WQ_code ?_
  refine WC_seq ?_
  refine WC_seq ?_
  refine WC_region ?_
  refine WL_val rfl rfl rfl (R_move rfl rfl) ?_
  refine WL_do rfl rfl rfl (D_call (po_znil) rfl rfl rfl rfl (pqC)) ?_
  rintro _ _ ⟨_, ⟨rfl, rfl⟩, rfl⟩
  refine WL_nil ?_
  refine WQ_code ?_
  refine WC_T rfl ?_
  refine WC_seq ?_
  refine WC_region ?_
  refine WL_val rfl rfl rfl (R_assign rfl rfl) ?_
  refine WL_nil ?_
  refine WQ_code ?_
  refine WC_ret ?_
  refine WQ_ret rfl rfl (.cons (.tmp rfl) .nil) rfl (by
      exact ⟨rfl, rfl⟩) (pqC)
theorem nturn_zr (p9 : Nat) (i : Int) : Spec Tryz.prog 27 [ptrH p9, .int .i64 i] [⟨some p9, cl [.pointer none, .pointer none, .pointer none, .slice none 0 0] 92⟩] (fun x H' => x = .int .i64 1 ∧ H' = [⟨some p9, cl [.pointer none, .pointer none, .pointer none, .slice none 0 0] 92⟩]) := by
  refine Spec.of (E := [(0, ptrH p9), (1, .int .i64 i)]) Tryz.func27 rfl (by kernel_rfl) Tryz.ntmps27 rfl rfl (fun w => ?_)
  refine WC_seq ?_
  refine WC_region ?_
  refine WL_val rfl rfl rfl (R_assign rfl rfl) ?_
  refine WL_nil ?_
  refine WQ_code ?_
  refine WC_seq ?_
  refine WC_seq ?_
  refine WC_region ?_
  refine WL_val rfl rfl rfl (R_move rfl rfl) ?_
  refine WL_do rfl rfl rfl (D_call (po_zz p9) rfl rfl rfl rfl (pqC)) ?_
  rintro _ _ ⟨_, ⟨rfl, rfl⟩, rfl⟩
  refine WL_nil ?_
  refine WQ_code ?_
  refine WC_T rfl ?_
  refine WC_seq ?_
  refine WC_region ?_
  refine WL_val rfl rfl rfl (R_assign rfl rfl) ?_
  refine WL_nil ?_
  refine WQ_code ?_
  refine WC_ret ?_
  refine WQ_ret rfl rfl (.cons (.tmp rfl) .nil) rfl (by
      exact ⟨rfl, rfl⟩) (pqC)
theorem nrsn_nl (i : Int) : Spec Tryz.prog 34 [.pointer none, .int .i64 i] [] (fun x H' => x = .tuple #[.int .i64 0, .int .i64 1] ∧ H' = []) := by
  refine Spec.of (E := [(0, .pointer none), (1, .int .i64 i)]) Tryz.func34 rfl (by kernel_rfl) Tryz.ntmps34 rfl rfl (fun w => ?_)
  refine WC_seq ?_
  refine WC_region ?_
  refine WL_val rfl rfl rfl (R_assign rfl rfl) ?_
  refine WL_val rfl rfl rfl (R_assign rfl rfl) ?_
  refine WL_nil ?_
  refine WQ_code ?_
  refine WC_seq ?_
  refine WC_region ?_
  refine WL_val rfl rfl rfl (R_move rfl rfl) ?_
  refine WL_val rfl rfl rfl (R_move rfl rfl) ?_
  refine WL_do rfl rfl rfl (D_call (nstate_nl i) rfl rfl rfl rfl (pqC)) ?_
  rintro _ _ ⟨_, ⟨rfl, rfl⟩, rfl⟩
  refine WL_val rfl rfl rfl (R_move rfl rfl) ?_
  refine WL_val rfl rfl rfl (R_extract rfl rfl rfl) ?_
  refine WL_val rfl rfl rfl (R_extract rfl rfl rfl) ?_
  refine WL_val rfl rfl rfl (R_assign rfl rfl) ?_
  refine WL_val rfl rfl rfl (R_assign rfl rfl) ?_
  refine WL_nil ?_
  refine WQ_code ?_
  refine WC_seq ?_
  refine WC_block ?_
  refine WC_seq ?_
  refine WC_region ?_
  refine WL_val rfl rfl rfl (R_move rfl rfl) ?_
  refine WL_val rfl rfl rfl (R_neq rfl rfl rfl) ?_
  refine WL_val rfl rfl rfl (R_assign rfl rfl) ?_
  refine WL_nil ?_
  refine WQ_code ?_
  refine WC_dT rfl (by simp) ?_
  refine WC_seq ?_
  refine WC_region ?_
  refine WL_val rfl rfl rfl (R_move rfl rfl) ?_
  refine WL_val rfl rfl rfl (R_assign rfl rfl) ?_
  refine WL_val rfl rfl rfl (R_assign rfl rfl) ?_
  refine WL_nil ?_
  refine WQ_code ?_
  refine WC_ret ?_
  refine WQ_ret rfl rfl (.cons (.tmp rfl) (.cons (.tmp rfl) .nil)) rfl (by
      exact ⟨rfl, rfl⟩) (pqC)
theorem nrsn_zr (p9 : Nat) (i : Int) : Spec Tryz.prog 34 [ptrH p9, .int .i64 i] [⟨some p9, cl [.pointer none, .pointer none, .pointer none, .slice none 0 0] 92⟩] (fun x H' => x = .tuple #[.int .i64 0, .int .i64 1] ∧ H' = [⟨some p9, cl [.pointer none, .pointer none, .pointer none, .slice none 0 0] 92⟩]) := by
  refine Spec.of (E := [(0, ptrH p9), (1, .int .i64 i)]) Tryz.func34 rfl (by kernel_rfl) Tryz.ntmps34 rfl rfl (fun w => ?_)
  refine WC_seq ?_
  refine WC_region ?_
  refine WL_val rfl rfl rfl (R_assign rfl rfl) ?_
  refine WL_val rfl rfl rfl (R_assign rfl rfl) ?_
  refine WL_nil ?_
  refine WQ_code ?_
  refine WC_seq ?_
  refine WC_region ?_
  refine WL_val rfl rfl rfl (R_move rfl rfl) ?_
  refine WL_val rfl rfl rfl (R_move rfl rfl) ?_
  refine WL_do rfl rfl rfl (D_call (nstate_zr p9 i) rfl rfl rfl rfl (pqC)) ?_
  rintro _ _ ⟨_, ⟨rfl, rfl⟩, rfl⟩
  refine WL_val rfl rfl rfl (R_move rfl rfl) ?_
  refine WL_val rfl rfl rfl (R_extract rfl rfl rfl) ?_
  refine WL_val rfl rfl rfl (R_extract rfl rfl rfl) ?_
  refine WL_val rfl rfl rfl (R_assign rfl rfl) ?_
  refine WL_val rfl rfl rfl (R_assign rfl rfl) ?_
  refine WL_nil ?_
  refine WQ_code ?_
  refine WC_seq ?_
  refine WC_block ?_
  refine WC_seq ?_
  refine WC_region ?_
  refine WL_val rfl rfl rfl (R_move rfl rfl) ?_
  refine WL_val rfl rfl rfl (R_neq rfl rfl rfl) ?_
  refine WL_val rfl rfl rfl (R_assign rfl rfl) ?_
  refine WL_nil ?_
  refine WQ_code ?_
  refine WC_dT rfl (by simp) ?_
  refine WC_seq ?_
  refine WC_region ?_
  refine WL_val rfl rfl rfl (R_move rfl rfl) ?_
  refine WL_val rfl rfl rfl (R_assign rfl rfl) ?_
  refine WL_val rfl rfl rfl (R_assign rfl rfl) ?_
  refine WL_nil ?_
  refine WQ_code ?_
  refine WC_ret ?_
  refine WQ_ret rfl rfl (.cons (.tmp rfl) (.cons (.tmp rfl) .nil)) rfl (by
      exact ⟨rfl, rfl⟩) (pqC)
theorem nwhr_nl (i : Int) : Spec Tryz.prog 22 [.pointer none, .int .i64 i] [] (fun x H' => x = .tuple #[.agg #[.int .i64 0, .int .i64 0], .int .i64 0, .int .i64 1] ∧ H' = []) := by
  refine Spec.of (E := [(0, .pointer none), (1, .int .i64 i)]) Tryz.func22 rfl (by kernel_rfl) Tryz.ntmps22 rfl rfl (fun w => ?_)
  refine WC_seq ?_
  refine WC_region ?_
  refine WL_do rfl rfl rfl (D_alloc rfl zv30) ?_
  rintro _ _ ⟨b1, rfl, rfl⟩
  refine WL_val rfl rfl rfl (R_assign rfl rfl) ?_
  refine WL_val rfl rfl rfl (R_assign rfl rfl) ?_
  refine WL_nil ?_
  refine WQ_code ?_
  refine WC_seq ?_
  refine WC_seq ?_
  refine WC_region ?_
  refine WL_val rfl rfl rfl (R_move rfl rfl) ?_
  refine WL_do rfl rfl rfl (D_call (po_znil) rfl rfl rfl rfl (pqC)) ?_
  rintro _ _ ⟨_, ⟨rfl, rfl⟩, rfl⟩
  refine WL_nil ?_
  refine WQ_code ?_
  refine WC_T rfl ?_
  refine WC_seq ?_
  refine WC_region ?_
  refine WL_val rfl rfl rfl (R_build rfl zv30 pl30 rfl rfl) ?_
  refine WL_do0 rfl rfl (D_store (vs := [_, _]) rfl Tryz.sizeOf30 rfl rfl rfl rfl rfl (plC) (by exact Nat.le_of_ble_eq_true rfl)) ?_
  rintro _ _ rfl
  refine WL_val rfl rfl rfl (R_assign rfl rfl) ?_
  refine WL_val rfl rfl rfl (R_assign rfl rfl) ?_
  refine WL_nil ?_
  refine WQ_code ?_
  refine WC_ret ?_
  refine WQ_ret rfl rfl (.cons (.cell (vs := [_, _]) rfl ag30 (mmC) rfl (atZ)) (.cons (.tmp rfl) (.cons (.tmp rfl) .nil))) rfl (by
      exact ⟨rfl, rfl⟩) (pqC)
theorem nwhr_zr (p9 : Nat) (i : Int) : Spec Tryz.prog 22 [ptrH p9, .int .i64 i] [⟨some p9, cl [.pointer none, .pointer none, .pointer none, .slice none 0 0] 92⟩] (fun x H' => x = .tuple #[.agg #[.int .i64 0, .int .i64 0], .int .i64 0, .int .i64 1] ∧ H' = [⟨some p9, cl [.pointer none, .pointer none, .pointer none, .slice none 0 0] 92⟩]) := by
  refine Spec.of (E := [(0, ptrH p9), (1, .int .i64 i)]) Tryz.func22 rfl (by kernel_rfl) Tryz.ntmps22 rfl rfl (fun w => ?_)
  refine WC_seq ?_
  refine WC_region ?_
  refine WL_do rfl rfl rfl (D_alloc rfl zv30) ?_
  rintro _ _ ⟨b1, rfl, rfl⟩
  refine WL_val rfl rfl rfl (R_assign rfl rfl) ?_
  refine WL_val rfl rfl rfl (R_assign rfl rfl) ?_
  refine WL_nil ?_
  refine WQ_code ?_
  refine WC_seq ?_
  refine WC_seq ?_
  refine WC_region ?_
  refine WL_val rfl rfl rfl (R_move rfl rfl) ?_
  refine WL_do rfl rfl rfl (D_call (po_zz p9) rfl rfl rfl rfl (pqC)) ?_
  rintro _ _ ⟨_, ⟨rfl, rfl⟩, rfl⟩
  refine WL_nil ?_
  refine WQ_code ?_
  refine WC_T rfl ?_
  refine WC_seq ?_
  refine WC_region ?_
  refine WL_val rfl rfl rfl (R_build rfl zv30 pl30 rfl rfl) ?_
  refine WL_do0 rfl rfl (D_store (vs := [_, _]) rfl Tryz.sizeOf30 rfl rfl rfl rfl rfl (plC) (by exact Nat.le_of_ble_eq_true rfl)) ?_
  rintro _ _ rfl
  refine WL_val rfl rfl rfl (R_assign rfl rfl) ?_
  refine WL_val rfl rfl rfl (R_assign rfl rfl) ?_
  refine WL_nil ?_
  refine WQ_code ?_
  refine WC_ret ?_
  refine WQ_ret rfl rfl (.cons (.cell (vs := [_, _]) rfl ag30 (mmC) rfl (atZ)) (.cons (.tmp rfl) (.cons (.tmp rfl) .nil))) rfl (by
      exact ⟨rfl, rfl⟩) (pqC)
theorem nready_nl  : Spec Tryz.prog 21 [.pointer none] [] (fun x H' => x = .slice none 0 0 ∧ H' = []) := by
  refine Spec.of (E := [(0, .pointer none)]) Tryz.func21 rfl (by kernel_rfl) Tryz.ntmps21 rfl rfl (fun w => ?_)
  refine WC_seq ?_
  refine WC_region ?_
  refine WL_val rfl rfl rfl (R_assign rfl rfl) ?_
  refine WL_nil ?_
  refine WQ_code ?_
  refine WC_seq ?_
  refine WC_seq ?_
  refine WC_region ?_
  refine WL_val rfl rfl rfl (R_move rfl rfl) ?_
  refine WL_do rfl rfl rfl (D_call (po_znil) rfl rfl rfl rfl (pqC)) ?_
  rintro _ _ ⟨_, ⟨rfl, rfl⟩, rfl⟩
  refine WL_nil ?_
  refine WQ_code ?_
  refine WC_T rfl ?_
  refine WC_seq ?_
  refine WC_region ?_
  refine WL_val rfl rfl rfl (R_assign rfl rfl) ?_
  refine WL_nil ?_
  refine WQ_code ?_
  refine WC_ret ?_
  refine WQ_ret rfl rfl (.cons (.tmp rfl) .nil) rfl (by
      exact ⟨rfl, rfl⟩) (pqC)
theorem nready_zr (p9 : Nat)  : Spec Tryz.prog 21 [ptrH p9] [⟨some p9, cl [.pointer none, .pointer none, .pointer none, .slice none 0 0] 92⟩] (fun x H' => x = .slice none 0 0 ∧ H' = [⟨some p9, cl [.pointer none, .pointer none, .pointer none, .slice none 0 0] 92⟩]) := by
  refine Spec.of (E := [(0, ptrH p9)]) Tryz.func21 rfl (by kernel_rfl) Tryz.ntmps21 rfl rfl (fun w => ?_)
  refine WC_seq ?_
  refine WC_region ?_
  refine WL_val rfl rfl rfl (R_assign rfl rfl) ?_
  refine WL_nil ?_
  refine WQ_code ?_
  refine WC_seq ?_
  refine WC_seq ?_
  refine WC_region ?_
  refine WL_val rfl rfl rfl (R_move rfl rfl) ?_
  refine WL_do rfl rfl rfl (D_call (po_zz p9) rfl rfl rfl rfl (pqC)) ?_
  rintro _ _ ⟨_, ⟨rfl, rfl⟩, rfl⟩
  refine WL_nil ?_
  refine WQ_code ?_
  refine WC_T rfl ?_
  refine WC_seq ?_
  refine WC_region ?_
  refine WL_val rfl rfl rfl (R_assign rfl rfl) ?_
  refine WL_nil ?_
  refine WQ_code ?_
  refine WC_ret ?_
  refine WQ_ret rfl rfl (.cons (.tmp rfl) .nil) rfl (by
      exact ⟨rfl, rfl⟩) (pqC)
theorem nnow_nl  : Spec Tryz.prog 35 [.pointer none] [] (fun x H' => x = .int .u64 0 ∧ H' = []) := by
  refine Spec.of (E := [(0, .pointer none)]) Tryz.func35 rfl (by kernel_rfl) Tryz.ntmps35 rfl rfl (fun w => ?_)
  refine WC_seq ?_
  refine WC_region ?_
  refine WL_val rfl rfl rfl (R_assign rfl rfl) ?_
  refine WL_nil ?_
  refine WQ_code ?_
  refine WC_seq ?_
  refine WC_seq ?_
  refine WC_region ?_
  refine WL_val rfl rfl rfl (R_move rfl rfl) ?_
  refine WL_do rfl rfl rfl (D_call (po_znil) rfl rfl rfl rfl (pqC)) ?_
  rintro _ _ ⟨_, ⟨rfl, rfl⟩, rfl⟩
  refine WL_nil ?_
  refine WQ_code ?_
  refine WC_T rfl ?_
  refine WC_seq ?_
  refine WC_region ?_
  refine WL_val rfl rfl rfl (R_assign rfl rfl) ?_
  refine WL_nil ?_
  refine WQ_code ?_
  refine WC_ret ?_
  refine WQ_ret rfl rfl (.cons (.tmp rfl) .nil) rfl (by
      exact ⟨rfl, rfl⟩) (pqC)
theorem nnow_zr (p9 : Nat)  : Spec Tryz.prog 35 [ptrH p9] [⟨some p9, cl [.pointer none, .pointer none, .pointer none, .slice none 0 0] 92⟩] (fun x H' => x = .int .u64 0 ∧ H' = [⟨some p9, cl [.pointer none, .pointer none, .pointer none, .slice none 0 0] 92⟩]) := by
  refine Spec.of (E := [(0, ptrH p9)]) Tryz.func35 rfl (by kernel_rfl) Tryz.ntmps35 rfl rfl (fun w => ?_)
  refine WC_seq ?_
  refine WC_region ?_
  refine WL_val rfl rfl rfl (R_assign rfl rfl) ?_
  refine WL_nil ?_
  refine WQ_code ?_
  refine WC_seq ?_
  refine WC_seq ?_
  refine WC_region ?_
  refine WL_val rfl rfl rfl (R_move rfl rfl) ?_
  refine WL_do rfl rfl rfl (D_call (po_zz p9) rfl rfl rfl rfl (pqC)) ?_
  rintro _ _ ⟨_, ⟨rfl, rfl⟩, rfl⟩
  refine WL_nil ?_
  refine WQ_code ?_
  refine WC_T rfl ?_
  refine WC_seq ?_
  refine WC_region ?_
  refine WL_val rfl rfl rfl (R_assign rfl rfl) ?_
  refine WL_nil ?_
  refine WQ_code ?_
  refine WC_ret ?_
  refine WQ_ret rfl rfl (.cons (.tmp rfl) .nil) rfl (by
      exact ⟨rfl, rfl⟩) (pqC)
theorem nnext_nl  : Spec Tryz.prog 36 [.pointer none] [] (fun x H' => x = .int .u64 18446744073709551615 ∧ H' = []) := by
  refine Spec.of (E := [(0, .pointer none)]) Tryz.func36 rfl (by kernel_rfl) Tryz.ntmps36 rfl rfl (fun w => ?_)
  refine WC_seq ?_
  refine WC_region ?_
  refine WL_val rfl rfl rfl (R_assign rfl rfl) ?_
  refine WL_nil ?_
  refine WQ_code ?_
  refine WC_seq ?_
  refine WC_seq ?_
  refine WC_region ?_
  refine WL_val rfl rfl rfl (R_move rfl rfl) ?_
  refine WL_do rfl rfl rfl (D_call (po_znil) rfl rfl rfl rfl (pqC)) ?_
  rintro _ _ ⟨_, ⟨rfl, rfl⟩, rfl⟩
  refine WL_nil ?_
  refine WQ_code ?_
  refine WC_T rfl ?_
  refine WC_seq ?_
  refine WC_region ?_
  refine WL_val rfl rfl rfl (R_assign rfl rfl) ?_
  refine WL_nil ?_
  refine WQ_code ?_
  refine WC_ret ?_
  refine WQ_ret rfl rfl (.cons (.tmp rfl) .nil) rfl (by
      exact ⟨rfl, rfl⟩) (pqC)
theorem nnext_zr (p9 : Nat)  : Spec Tryz.prog 36 [ptrH p9] [⟨some p9, cl [.pointer none, .pointer none, .pointer none, .slice none 0 0] 92⟩] (fun x H' => x = .int .u64 18446744073709551615 ∧ H' = [⟨some p9, cl [.pointer none, .pointer none, .pointer none, .slice none 0 0] 92⟩]) := by
  refine Spec.of (E := [(0, ptrH p9)]) Tryz.func36 rfl (by kernel_rfl) Tryz.ntmps36 rfl rfl (fun w => ?_)
  refine WC_seq ?_
  refine WC_region ?_
  refine WL_val rfl rfl rfl (R_assign rfl rfl) ?_
  refine WL_nil ?_
  refine WQ_code ?_
  refine WC_seq ?_
  refine WC_seq ?_
  refine WC_region ?_
  refine WL_val rfl rfl rfl (R_move rfl rfl) ?_
  refine WL_do rfl rfl rfl (D_call (po_zz p9) rfl rfl rfl rfl (pqC)) ?_
  rintro _ _ ⟨_, ⟨rfl, rfl⟩, rfl⟩
  refine WL_nil ?_
  refine WQ_code ?_
  refine WC_T rfl ?_
  refine WC_seq ?_
  refine WC_region ?_
  refine WL_val rfl rfl rfl (R_assign rfl rfl) ?_
  refine WL_nil ?_
  refine WQ_code ?_
  refine WC_ret ?_
  refine WQ_ret rfl rfl (.cons (.tmp rfl) .nil) rfl (by
      exact ⟨rfl, rfl⟩) (pqC)
theorem ncopy_nl  : Spec Tryz.prog 37 [.pointer none] [] (fun x H' => x = .pointer none ∧ H' = []) := by
  refine Spec.of (E := [(0, .pointer none)]) Tryz.func37 rfl (by kernel_rfl) Tryz.ntmps37 rfl rfl (fun w => ?_)
  refine WC_seq ?_
  refine WC_region ?_
  refine WL_val rfl rfl rfl (R_assign rfl rfl) ?_
  refine WL_nil ?_
  refine WQ_code ?_
  refine WC_seq ?_
  refine WC_seq ?_
  refine WC_region ?_
  refine WL_val rfl rfl rfl (R_move rfl rfl) ?_
  refine WL_do rfl rfl rfl (D_call (po_znil) rfl rfl rfl rfl (pqC)) ?_
  rintro _ _ ⟨_, ⟨rfl, rfl⟩, rfl⟩
  refine WL_nil ?_
  refine WQ_code ?_
  refine WC_T rfl ?_
  refine WC_seq ?_
  refine WC_region ?_
  refine WL_val rfl rfl rfl (R_assign rfl rfl) ?_
  refine WL_nil ?_
  refine WQ_code ?_
  refine WC_ret ?_
  refine WQ_ret rfl rfl (.cons (.tmp rfl) .nil) rfl (by
      exact ⟨rfl, rfl⟩) (pqC)
theorem ncopy_zr (p9 : Nat)  : Spec Tryz.prog 37 [ptrH p9] [⟨some p9, cl [.pointer none, .pointer none, .pointer none, .slice none 0 0] 92⟩] (fun x H' => x = .pointer none ∧ H' = [⟨some p9, cl [.pointer none, .pointer none, .pointer none, .slice none 0 0] 92⟩]) := by
  refine Spec.of (E := [(0, ptrH p9)]) Tryz.func37 rfl (by kernel_rfl) Tryz.ntmps37 rfl rfl (fun w => ?_)
  refine WC_seq ?_
  refine WC_region ?_
  refine WL_val rfl rfl rfl (R_assign rfl rfl) ?_
  refine WL_nil ?_
  refine WQ_code ?_
  refine WC_seq ?_
  refine WC_seq ?_
  refine WC_region ?_
  refine WL_val rfl rfl rfl (R_move rfl rfl) ?_
  refine WL_do rfl rfl rfl (D_call (po_zz p9) rfl rfl rfl rfl (pqC)) ?_
  rintro _ _ ⟨_, ⟨rfl, rfl⟩, rfl⟩
  refine WL_nil ?_
  refine WQ_code ?_
  refine WC_T rfl ?_
  refine WC_seq ?_
  refine WC_region ?_
  refine WL_val rfl rfl rfl (R_assign rfl rfl) ?_
  refine WL_nil ?_
  refine WQ_code ?_
  refine WC_ret ?_
  refine WQ_ret rfl rfl (.cons (.tmp rfl) .nil) rfl (by
      exact ⟨rfl, rfl⟩) (pqC)
end Go.Proofs.YtbkdebnkoidicaaGreat
end
section
set_option linter.unusedVariables false
set_option maxRecDepth 20000
set_option maxHeartbeats 8000000
namespace Go.Proofs.YtbkdebnkoidicaaGreat
theorem nil_row (i n g dir : Int) (k : Nat) : Spec Tryz.prog 7 [.int .i64 i, .agg #[.int .i64 n, .int .i64 g], .int .i64 dir, .int .u64 (k : Int)] [] (fun x H' => x = .bool true ∧ H' = []) := by
  refine Spec.of (E := [(0, .int .i64 i), (1, .agg #[.int .i64 n, .int .i64 g]), (2, .int .i64 dir), (3, .int .u64 (k : Int))]) Tryz.func7 rfl (by kernel_rfl) Tryz.ntmps7 rfl rfl (fun w => ?_)
  refine WC_seq ?_
  refine WC_region ?_
  refine WL_do rfl rfl rfl (D_box (cs := [_, _]) rfl rfl rfl) ?_
  rintro _ _ ⟨b1, rfl, rfl⟩
  refine WL_val rfl rfl rfl (R_assign rfl rfl) ?_
  refine WL_nil ?_
  refine WQ_code ?_
  refine WC_seq ?_
  refine WC_region ?_
  refine WL_val rfl rfl rfl (R_assign rfl rfl) ?_
  refine WL_nil ?_
  refine WQ_code ?_
  refine WC_seq ?_
  refine WC_seq ?_
  refine WC_region ?_
  refine WL_val rfl rfl rfl (R_move rfl rfl) ?_
  refine WL_val rfl rfl rfl (R_build rfl zv92 pl92 rfl rfl) ?_
  refine WL_do rfl rfl rfl (D_box (cs := [_, _, _, _]) rfl rfl rfl) ?_
  rintro _ _ ⟨b2, rfl, rfl⟩
  refine WL_do rfl rfl rfl (D_buildSlice rfl si93 rfl rfl rfl) ?_
  rintro _ _ ⟨b3, rfl, rfl⟩
  refine WL_val rfl rfl rfl (R_len rfl Tryz.underlying93 rfl) ?_
  refine WL_val rfl rfl rfl (R_move rfl rfl) ?_
  refine WL_nil ?_
  refine WQ_code ?_
  refine WC_block ?_
  refine WC_loopF (G := Nat) [8, 11, 12, 13, 14, 15, 16, 17, 18, 19, 20, 21, 22, 23, 24, 25, 26, 32, 33, 34, 35, 36, 37, 38, 39, 40, 41, 42, 43, 44, 45, 46, 47, 48, 49, 50, 51, 52, 53, 54, 55, 56, 57, 58, 59, 60, 61, 62, 63, 64, 65, 66, 67, 68, 69, 70, 71, 72, 73, 74, 75, 76, 77, 78, 79, 80, 81, 82, 83, 84, 85, 86, 87, 88, 89, 90, 91, 92, 93, 94, 95, 96, 97, 98, 99, 100, 101, 102, 103, 104, 105, 106, 107, 108, 109, 110, 111, 112, 113, 114, 115, 116, 117, 118, 119, 120, 121, 122, 123, 124, 125, 126, 127, 128, 129, 130, 131, 132, 133, 134, 135, 136, 137, 138, 139, 140, 141, 142, 143, 144, 145, 146, 147, 148, 149, 150, 151, 152, 153, 154, 155, 156, 157, 158, 159, 160, 161, 162, 163, 164, 165, 166, 167, 168, 169, 170, 171, 172, 173, 174, 175, 176, 177, 178, 179, 180, 181, 182, 183, 184, 185, 186, 187, 188, 189, 190, 191, 192, 193, 194, 195, 196, 197, 198, 199, 200, 201, 202, 203, 204, 205, 206, 207, 208, 209, 210, 211, 212, 213, 214, 215, 216, 217, 218, 219, 220, 221, 222, 223, 224, 225, 226, 227, 228, 229, 230, 231, 232, 233, 234, 235, 236, 237] (fun y => y ≤ 2) (fun y => [(32, .int .i64 (y : Int))]) (fun y => [⟨some b2, cl [.pointer none, .pointer none, .pointer none, .slice none 0 0] 92⟩]) (fun y => 2 - y) (0) (by omega) leZ (pqC) ?_
  rintro y hy
  refine WC_seq ?_
  refine WC_region ?_
  refine WL_val rfl rfl rfl (R_lss rfl rfl rfl) ?_
  refine WL_nil ?_
  refine WQ_code ?_
  refine WC_seq ?_
  refine WC_dec rfl (fun c1 => ?_) (fun c1 => ?_)
  · obtain rfl | rfl : y = 0 ∨ y = 1 := by omega
    · refine WC_skip ?_
      refine WQ_code ?_
      refine WC_seq ?_
      refine WC_block ?_
      refine WC_seq ?_
      refine WC_region ?_
      refine WL_val rfl rfl rfl (R_indexAddrN rfl Tryz.underlying93 Tryz.sizeOf23 rfl rfl (by omega)) ?_
      refine WL_val rfl rfl rfl (R_load (v := .pointer none) rfl sc23 rfl (mmC) (rfl)) ?_
      refine WL_val rfl rfl rfl (R_assign rfl rfl) ?_
      refine WL_nil ?_
      refine WQ_code ?_
      refine WC_seq ?_
      refine WC_region ?_
      refine WL_val rfl rfl rfl (R_move rfl rfl) ?_
      refine WL_val rfl rfl rfl (R_move rfl rfl) ?_
      refine WL_do rfl rfl rfl (D_call (nopen_nl i) rfl rfl rfl rfl (pqC)) ?_
      rintro _ _ ⟨_, ⟨rfl, rfl⟩, rfl⟩
      refine WL_val rfl rfl rfl (R_move rfl rfl) ?_
      refine WL_val rfl rfl rfl (R_extract rfl rfl rfl) ?_
      refine WL_val rfl rfl rfl (R_extract rfl rfl rfl) ?_
      refine WL_do rfl rfl rfl (D_alloc rfl zv30) ?_
      rintro _ _ ⟨b4, rfl, rfl⟩
      refine WL_do0 rfl rfl (D_store (vs := [_, _]) rfl Tryz.sizeOf30 rfl rfl rfl rfl rfl (plC) (by exact Nat.le_of_ble_eq_true rfl)) ?_
      rintro _ _ rfl
      refine WL_val rfl rfl rfl (R_assign rfl rfl) ?_
      refine WL_nil ?_
      refine WQ_code ?_
      refine WC_seq ?_
      refine WC_region ?_
      refine WL_val rfl rfl rfl (R_move rfl rfl) ?_
      refine WL_val rfl rfl rfl (R_loadA (vs := [_, _]) rfl ag30 rfl (mmC) rfl (atZ)) ?_
      refine WL_do rfl rfl rfl (D_call (nclose_nl n g) rfl rfl rfl rfl (pqC)) ?_
      rintro _ _ ⟨_, ⟨rfl, rfl⟩, rfl⟩
      refine WL_val rfl rfl rfl (R_move rfl rfl) ?_
      refine WL_val rfl rfl rfl (R_extract rfl rfl rfl) ?_
      refine WL_val rfl rfl rfl (R_extract rfl rfl rfl) ?_
      refine WL_val rfl rfl rfl (R_assign rfl rfl) ?_
      refine WL_val rfl rfl rfl (R_assign rfl rfl) ?_
      refine WL_nil ?_
      refine WQ_code ?_
      refine WC_seq ?_
      refine WC_region ?_
      refine WL_val rfl rfl rfl (R_move rfl rfl) ?_
      refine WL_val rfl rfl rfl (R_loadA (vs := [_, _]) rfl ag30 rfl (mmC) rfl (atZ)) ?_
      refine WL_do rfl rfl rfl (D_call (nvalue_nl n g) rfl rfl rfl rfl (pqC)) ?_
      rintro _ _ ⟨_, ⟨rfl, rfl⟩, rfl⟩
      refine WL_val rfl rfl rfl (R_move rfl rfl) ?_
      refine WL_val rfl rfl rfl (R_extract rfl rfl rfl) ?_
      refine WL_val rfl rfl rfl (R_extract rfl rfl rfl) ?_
      refine WL_val rfl rfl rfl (R_assign rfl rfl) ?_
      refine WL_val rfl rfl rfl (R_assign rfl rfl) ?_
      refine WL_nil ?_
      refine WQ_code ?_
      refine WC_seq ?_
      refine WC_region ?_
      refine WL_val rfl rfl rfl (R_move rfl rfl) ?_
      refine WL_val rfl rfl rfl (R_loadA (vs := [_, _]) rfl ag30 rfl (mmC) rfl (atZ)) ?_
      refine WL_val rfl rfl rfl (R_move rfl rfl) ?_
      refine WL_val rfl rfl rfl (R_move rfl rfl) ?_
      refine WL_do rfl rfl rfl (D_call (ndead_nl n g dir (k : Int)) rfl rfl rfl rfl (pqC)) ?_
      rintro _ _ ⟨_, ⟨rfl, rfl⟩, rfl⟩
      refine WL_val rfl rfl rfl (R_move rfl rfl) ?_
      refine WL_val rfl rfl rfl (R_extract rfl rfl rfl) ?_
      refine WL_val rfl rfl rfl (R_extract rfl rfl rfl) ?_
      refine WL_val rfl rfl rfl (R_assign rfl rfl) ?_
      refine WL_val rfl rfl rfl (R_assign rfl rfl) ?_
      refine WL_nil ?_
      refine WQ_code ?_
      refine WC_seq ?_
      refine WC_seq ?_
      refine WC_draw _ [(0, true), (1, true), (2, true), (3, true), (4, true), (5, true), (6, true), (7, true), (8, true), (9, true), (10, true), (11, true), (12, true), (13, true), (14, true), (15, true), (16, true), (17, true), (18, true), (19, true), (20, true), (21, true), (22, true), (23, true), (24, true), (25, true), (26, true), (27, true), (28, true), (29, true), (30, true), (31, true), (32, true)] followsMixed rfl rfl (by kernel_rfl) .all ?_
      refine WM_val rfl rfl rfl rfl (R_loadA (vs := [_, _]) rfl ag30 rfl (mmC) rfl (atZ)) ?_
      refine WM_call rfl (Spec.quiet (lfd_ok 0 0)) rfl rfl rfl rfl rfl rfl rfl (pqC) ?_
      refine WM_val rfl rfl rfl rfl (R_sne30 rfl rfl rfl rfl) ?_
      refine WM_set (s := 64) (v := .bool false) rfl (by simp) ?_
      refine WM_val rfl rfl rfl rfl (R_move rfl rfl) ?_
      refine WM_val rfl rfl rfl rfl (R_move rfl rfl) ?_
      refine WM_val rfl rfl rfl rfl (R_neq rfl rfl rfl) ?_
      refine WM_set (s := 67) (v := .bool false) rfl (by simp) ?_
      refine WM_val rfl rfl rfl rfl (R_pickF rfl rfl rfl) ?_
      refine WM_val rfl rfl rfl rfl (R_move rfl rfl) ?_
      refine WM_val rfl rfl rfl rfl (R_move rfl rfl) ?_
      refine WM_val rfl rfl rfl rfl (R_len rfl Tryz.underlying34 rfl) ?_
      refine WM_val rfl rfl rfl rfl (R_neq rfl rfl rfl) ?_
      refine WM_set (s := 72) (v := .bool false) rfl (by simp) ?_
      refine WM_val rfl rfl rfl rfl (R_pickF rfl rfl rfl) ?_
      refine WM_val rfl rfl rfl rfl (R_move rfl rfl) ?_
      refine WM_val rfl rfl rfl rfl (R_move rfl rfl) ?_
      refine WM_val rfl rfl rfl rfl (R_neq rfl rfl rfl) ?_
      refine WM_set (s := 76) (v := .bool false) rfl (by simp) ?_
      refine WM_val rfl rfl rfl rfl (R_pickF rfl rfl rfl) ?_
      refine WM_val rfl rfl rfl rfl (R_move rfl rfl) ?_
      refine WM_val rfl rfl rfl rfl (R_move rfl rfl) ?_
      refine WM_val rfl rfl rfl rfl (R_neq rfl rfl rfl) ?_
      refine WM_set (s := 80) (v := .bool false) rfl (by simp) ?_
      refine WM_val rfl rfl rfl rfl (R_pickF rfl rfl rfl) ?_
      refine WM_val rfl rfl rfl rfl (R_move rfl rfl) ?_
      refine WM_val rfl rfl rfl rfl (R_move rfl rfl) ?_
      refine WM_val rfl rfl rfl rfl (R_neq rfl rfl rfl) ?_
      refine WM_set (s := 84) (v := .bool false) rfl (by simp) ?_
      refine WM_val rfl rfl rfl rfl (R_pickF rfl rfl rfl) ?_
      refine WM_val rfl rfl rfl rfl (R_move rfl rfl) ?_
      refine WM_val rfl rfl rfl rfl (R_move rfl rfl) ?_
      refine WM_val rfl rfl rfl rfl (R_len rfl Tryz.underlying34 rfl) ?_
      refine WM_val rfl rfl rfl rfl (R_neq rfl rfl rfl) ?_
      refine WM_set (s := 89) (v := .bool false) rfl (by simp) ?_
      refine WM_val rfl rfl rfl rfl (R_pickF rfl rfl rfl) ?_
      refine WM_val rfl rfl rfl rfl (R_move rfl rfl) ?_
      refine WM_val rfl rfl rfl rfl (R_move rfl rfl) ?_
      refine WM_val rfl rfl rfl rfl (R_neq rfl rfl rfl) ?_
      refine WM_set (s := 93) (v := .bool false) rfl (by simp) ?_
      refine WM_val rfl rfl rfl rfl (R_pickF rfl rfl rfl) ?_
      refine WM_nil ?_
      refine WQ_code ?_
      refine WC_F rfl ?_
      refine WC_skip ?_
      refine WQ_code ?_
      refine WC_seq ?_
      refine WC_region ?_
      refine WL_val rfl rfl rfl (R_move rfl rfl) ?_
      refine WL_val rfl rfl rfl (R_loadA (vs := [_, _]) rfl ag30 rfl (mmC) rfl (atZ)) ?_
      refine WL_val rfl rfl rfl (R_move rfl rfl) ?_
      refine WL_do rfl rfl rfl (D_call (nsig_nl n g dir) rfl rfl rfl rfl (pqC)) ?_
      rintro _ _ ⟨_, ⟨rfl, rfl⟩, rfl⟩
      refine WL_val rfl rfl rfl (R_move rfl rfl) ?_
      refine WL_val rfl rfl rfl (R_extract rfl rfl rfl) ?_
      refine WL_val rfl rfl rfl (R_extract rfl rfl rfl) ?_
      refine WL_val rfl rfl rfl (R_assign rfl rfl) ?_
      refine WL_val rfl rfl rfl (R_assign rfl rfl) ?_
      refine WL_nil ?_
      refine WQ_code ?_
      refine WC_seq ?_
      refine WC_region ?_
      refine WL_val rfl rfl rfl (R_move rfl rfl) ?_
      refine WL_val rfl rfl rfl (R_loadA (vs := [_, _]) rfl ag30 rfl (mmC) rfl (atZ)) ?_
      refine WL_val rfl rfl rfl (R_move rfl rfl) ?_
      refine WL_do rfl rfl rfl (D_call (nsigall_nl n g dir) rfl rfl rfl rfl (pqC)) ?_
      rintro _ _ ⟨_, ⟨rfl, rfl⟩, rfl⟩
      refine WL_val rfl rfl rfl (R_move rfl rfl) ?_
      refine WL_val rfl rfl rfl (R_extract rfl rfl rfl) ?_
      refine WL_val rfl rfl rfl (R_extract rfl rfl rfl) ?_
      refine WL_val rfl rfl rfl (R_assign rfl rfl) ?_
      refine WL_val rfl rfl rfl (R_assign rfl rfl) ?_
      refine WL_nil ?_
      refine WQ_code ?_
      refine WC_seq ?_
      refine WC_region ?_
      refine WL_val rfl rfl rfl (R_move rfl rfl) ?_
      refine WL_val rfl rfl rfl (R_move rfl rfl) ?_
      refine WL_do rfl rfl rfl (D_call (nadv_nl (k : Int)) rfl rfl rfl rfl (pqC)) ?_
      rintro _ _ ⟨_, ⟨rfl, rfl⟩, rfl⟩
      refine WL_val rfl rfl rfl (R_move rfl rfl) ?_
      refine WL_val rfl rfl rfl (R_extract rfl rfl rfl) ?_
      refine WL_val rfl rfl rfl (R_extract rfl rfl rfl) ?_
      refine WL_val rfl rfl rfl (R_assign rfl rfl) ?_
      refine WL_val rfl rfl rfl (R_assign rfl rfl) ?_
      refine WL_nil ?_
      refine WQ_code ?_
      refine WC_seq ?_
      refine WC_region ?_
      refine WL_val rfl rfl rfl (R_move rfl rfl) ?_
      refine WL_val rfl rfl rfl (R_move rfl rfl) ?_
      refine WL_do rfl rfl rfl (D_call (nrsn_nl i) rfl rfl rfl rfl (pqC)) ?_
      rintro _ _ ⟨_, ⟨rfl, rfl⟩, rfl⟩
      refine WL_val rfl rfl rfl (R_move rfl rfl) ?_
      refine WL_val rfl rfl rfl (R_extract rfl rfl rfl) ?_
      refine WL_val rfl rfl rfl (R_extract rfl rfl rfl) ?_
      refine WL_val rfl rfl rfl (R_assign rfl rfl) ?_
      refine WL_val rfl rfl rfl (R_assign rfl rfl) ?_
      refine WL_nil ?_
      refine WQ_code ?_
      refine WC_seq ?_
      refine WC_seq ?_
      refine WC_region ?_
      refine WL_val rfl rfl rfl (R_move rfl rfl) ?_
      refine WL_val rfl rfl rfl (R_neq rfl rfl rfl) ?_
      refine WL_set (s := 122) (v := .bool false) rfl (by simp) ?_
      refine WL_val rfl rfl rfl (R_move rfl rfl) ?_
      refine WL_val rfl rfl rfl (R_move rfl rfl) ?_
      refine WL_val rfl rfl rfl (R_neq rfl rfl rfl) ?_
      refine WL_set (s := 125) (v := .bool false) rfl (by simp) ?_
      refine WL_val rfl rfl rfl (R_pickF rfl rfl rfl) ?_
      refine WL_val rfl rfl rfl (R_move rfl rfl) ?_
      refine WL_val rfl rfl rfl (R_move rfl rfl) ?_
      refine WL_val rfl rfl rfl (R_len rfl Tryz.underlying34 rfl) ?_
      refine WL_val rfl rfl rfl (R_neq rfl rfl rfl) ?_
      refine WL_set (s := 130) (v := .bool false) rfl (by simp) ?_
      refine WL_val rfl rfl rfl (R_pickF rfl rfl rfl) ?_
      refine WL_val rfl rfl rfl (R_move rfl rfl) ?_
      refine WL_val rfl rfl rfl (R_move rfl rfl) ?_
      refine WL_val rfl rfl rfl (R_neq rfl rfl rfl) ?_
      refine WL_set (s := 134) (v := .bool false) rfl (by simp) ?_
      refine WL_val rfl rfl rfl (R_pickF rfl rfl rfl) ?_
      refine WL_val rfl rfl rfl (R_move rfl rfl) ?_
      refine WL_val rfl rfl rfl (R_move rfl rfl) ?_
      refine WL_val rfl rfl rfl (R_len rfl Tryz.underlying34 rfl) ?_
      refine WL_val rfl rfl rfl (R_neq rfl rfl rfl) ?_
      refine WL_set (s := 139) (v := .bool false) rfl (by simp) ?_
      refine WL_val rfl rfl rfl (R_pickF rfl rfl rfl) ?_
      refine WL_val rfl rfl rfl (R_move rfl rfl) ?_
      refine WL_val rfl rfl rfl (R_move rfl rfl) ?_
      refine WL_val rfl rfl rfl (R_neq rfl rfl rfl) ?_
      refine WL_set (s := 143) (v := .bool false) rfl (by simp) ?_
      refine WL_val rfl rfl rfl (R_pickF rfl rfl rfl) ?_
      refine WL_val rfl rfl rfl (R_move rfl rfl) ?_
      refine WL_val rfl rfl rfl (R_move rfl rfl) ?_
      refine WL_val rfl rfl rfl (R_neq rfl rfl rfl) ?_
      refine WL_set (s := 147) (v := .bool false) rfl (by simp) ?_
      refine WL_val rfl rfl rfl (R_pickF rfl rfl rfl) ?_
      refine WL_val rfl rfl rfl (R_move rfl rfl) ?_
      refine WL_val rfl rfl rfl (R_move rfl rfl) ?_
      refine WL_val rfl rfl rfl (R_neq rfl rfl rfl) ?_
      refine WL_set (s := 151) (v := .bool false) rfl (by simp) ?_
      refine WL_val rfl rfl rfl (R_pickF rfl rfl rfl) ?_
      refine WL_nil ?_
      refine WQ_code ?_
      refine WC_F rfl ?_
      refine WC_skip ?_
      refine WQ_code ?_
      refine WC_seq ?_
      refine WC_region ?_
      refine WL_val rfl rfl rfl (R_move rfl rfl) ?_
      refine WL_val rfl rfl rfl (R_move rfl rfl) ?_
      refine WL_do rfl rfl rfl (D_call (nstate_nl i) rfl rfl rfl rfl (pqC)) ?_
      rintro _ _ ⟨_, ⟨rfl, rfl⟩, rfl⟩
      refine WL_val rfl rfl rfl (R_move rfl rfl) ?_
      refine WL_val rfl rfl rfl (R_extract rfl rfl rfl) ?_
      refine WL_val rfl rfl rfl (R_extract rfl rfl rfl) ?_
      refine WL_val rfl rfl rfl (R_assign rfl rfl) ?_
      refine WL_val rfl rfl rfl (R_assign rfl rfl) ?_
      refine WL_nil ?_
      refine WQ_code ?_
      refine WC_seq ?_
      refine WC_region ?_
      refine WL_val rfl rfl rfl (R_move rfl rfl) ?_
      refine WL_val rfl rfl rfl (R_move rfl rfl) ?_
      refine WL_do rfl rfl rfl (D_call (nwhr_nl i) rfl rfl rfl rfl (pqC)) ?_
      rintro _ _ ⟨_, ⟨rfl, rfl⟩, rfl⟩
      refine WL_val rfl rfl rfl (R_move rfl rfl) ?_
      refine WL_val rfl rfl rfl (R_extract rfl rfl rfl) ?_
      refine WL_val rfl rfl rfl (R_extract rfl rfl rfl) ?_
      refine WL_val rfl rfl rfl (R_extract rfl rfl rfl) ?_
      refine WL_do rfl rfl rfl (D_alloc rfl zv30) ?_
      rintro _ _ ⟨b5, rfl, rfl⟩
      refine WL_do0 rfl rfl (D_store (vs := [_, _]) rfl Tryz.sizeOf30 rfl rfl rfl rfl rfl (plC) (by exact Nat.le_of_ble_eq_true rfl)) ?_
      rintro _ _ rfl
      refine WL_val rfl rfl rfl (R_assign rfl rfl) ?_
      refine WL_val rfl rfl rfl (R_assign rfl rfl) ?_
      refine WL_nil ?_
      refine WQ_code ?_
      refine WC_seq ?_
      refine WC_seq ?_
      refine WC_draw _ [(0, true), (1, true), (2, true), (3, true), (4, true), (5, true), (6, true), (7, true), (8, true), (9, true), (10, true), (11, true), (12, true), (13, true), (14, true), (15, true), (16, true), (17, true), (18, true), (19, true), (20, true), (21, true), (22, true), (23, true), (24, true), (25, true), (26, true), (27, true), (28, true), (29, true), (30, true), (31, true), (32, true), (33, true), (34, true), (35, true), (36, true), (37, true), (38, true), (39, true), (40, true), (41, true), (42, true), (43, true), (44, true), (45, true), (46, true), (47, true), (48, true), (49, true), (50, true), (51, true)] followsMixed rfl rfl (by kernel_rfl) .all ?_
      refine WM_val rfl rfl rfl rfl (R_move rfl rfl) ?_
      refine WM_val rfl rfl rfl rfl (R_neq rfl rfl rfl) ?_
      refine WM_set (s := 167) (v := .bool false) rfl (by simp) ?_
      refine WM_val rfl rfl rfl rfl (R_move rfl rfl) ?_
      refine WM_val rfl rfl rfl rfl (R_move rfl rfl) ?_
      refine WM_val rfl rfl rfl rfl (R_neq rfl rfl rfl) ?_
      refine WM_set (s := 170) (v := .bool false) rfl (by simp) ?_
      refine WM_val rfl rfl rfl rfl (R_pickF rfl rfl rfl) ?_
      refine WM_val rfl rfl rfl rfl (R_move rfl rfl) ?_
      refine WM_val rfl rfl rfl rfl (R_loadA (vs := [_, _]) rfl ag30 rfl (mmC) rfl (atZ)) ?_
      refine WM_call rfl (Spec.quiet (lfd_ok 0 0)) rfl rfl rfl rfl rfl rfl rfl (pqC) ?_
      refine WM_val rfl rfl rfl rfl (R_sne30 rfl rfl rfl rfl) ?_
      refine WM_set (s := 175) (v := .bool false) rfl (by simp) ?_
      refine WM_val rfl rfl rfl rfl (R_pickF rfl rfl rfl) ?_
      refine WM_val rfl rfl rfl rfl (R_move rfl rfl) ?_
      refine WM_val rfl rfl rfl rfl (R_move rfl rfl) ?_
      refine WM_val rfl rfl rfl rfl (R_neq rfl rfl rfl) ?_
      refine WM_set (s := 179) (v := .bool false) rfl (by simp) ?_
      refine WM_val rfl rfl rfl rfl (R_pickF rfl rfl rfl) ?_
      refine WM_val rfl rfl rfl rfl (R_move rfl rfl) ?_
      refine WM_val rfl rfl rfl rfl (R_move rfl rfl) ?_
      refine WM_val rfl rfl rfl rfl (R_neq rfl rfl rfl) ?_
      refine WM_set (s := 183) (v := .bool false) rfl (by simp) ?_
      refine WM_val rfl rfl rfl rfl (R_pickF rfl rfl rfl) ?_
      refine WM_val rfl rfl rfl rfl (R_move rfl rfl) ?_
      refine WM_val rfl rfl rfl rfl (R_move rfl rfl) ?_
      refine WM_val rfl rfl rfl rfl (R_loadA (vs := [_, _]) rfl ag30 rfl (mmC) rfl (atZ)) ?_
      refine WM_val rfl rfl rfl rfl (R_move rfl rfl) ?_
      refine WM_call rfl (Spec.quiet (nchk_nl n g dir)) rfl rfl rfl rfl rfl rfl rfl (pqC) ?_
      refine WM_val rfl rfl rfl rfl (R_neq rfl rfl rfl) ?_
      refine WM_set (s := 190) (v := .bool false) rfl (by simp) ?_
      refine WM_val rfl rfl rfl rfl (R_pickF rfl rfl rfl) ?_
      refine WM_val rfl rfl rfl rfl (R_move rfl rfl) ?_
      refine WM_val rfl rfl rfl rfl (R_move rfl rfl) ?_
      refine WM_val rfl rfl rfl rfl (R_move rfl rfl) ?_
      refine WM_val rfl rfl rfl rfl (R_loadA (vs := [_, _]) rfl ag30 rfl (mmC) rfl (atZ)) ?_
      refine WM_val rfl rfl rfl rfl (R_move rfl rfl) ?_
      refine WM_call rfl (Spec.quiet (nwait_nl i n g dir)) rfl rfl rfl rfl rfl rfl rfl (pqC) ?_
      refine WM_val rfl rfl rfl rfl (R_neq rfl rfl rfl) ?_
      refine WM_set (s := 198) (v := .bool false) rfl (by simp) ?_
      refine WM_val rfl rfl rfl rfl (R_pickF rfl rfl rfl) ?_
      refine WM_val rfl rfl rfl rfl (R_move rfl rfl) ?_
      refine WM_val rfl rfl rfl rfl (R_move rfl rfl) ?_
      refine WM_val rfl rfl rfl rfl (R_move rfl rfl) ?_
      refine WM_call rfl (Spec.quiet (nstart_nl i)) rfl rfl rfl rfl rfl rfl rfl (pqC) ?_
      refine WM_val rfl rfl rfl rfl (R_neq rfl rfl rfl) ?_
      refine WM_set (s := 204) (v := .bool false) rfl (by simp) ?_
      refine WM_val rfl rfl rfl rfl (R_pickF rfl rfl rfl) ?_
      refine WM_val rfl rfl rfl rfl (R_move rfl rfl) ?_
      refine WM_val rfl rfl rfl rfl (R_move rfl rfl) ?_
      refine WM_val rfl rfl rfl rfl (R_move rfl rfl) ?_
      refine WM_call rfl (Spec.quiet (nfin_nl i)) rfl rfl rfl rfl rfl rfl rfl (pqC) ?_
      refine WM_val rfl rfl rfl rfl (R_neq rfl rfl rfl) ?_
      refine WM_set (s := 210) (v := .bool false) rfl (by simp) ?_
      refine WM_val rfl rfl rfl rfl (R_pickF rfl rfl rfl) ?_
      refine WM_val rfl rfl rfl rfl (R_move rfl rfl) ?_
      refine WM_val rfl rfl rfl rfl (R_move rfl rfl) ?_
      refine WM_val rfl rfl rfl rfl (R_move rfl rfl) ?_
      refine WM_call rfl (Spec.quiet (nturn_nl i)) rfl rfl rfl rfl rfl rfl rfl (pqC) ?_
      refine WM_val rfl rfl rfl rfl (R_neq rfl rfl rfl) ?_
      refine WM_set (s := 216) (v := .bool false) rfl (by simp) ?_
      refine WM_val rfl rfl rfl rfl (R_pickF rfl rfl rfl) ?_
      refine WM_nil ?_
      refine WQ_code ?_
      refine WC_F rfl ?_
      refine WC_skip ?_
      refine WQ_code ?_
      refine WC_seq ?_
      refine WC_region ?_
      refine WL_val rfl rfl rfl (R_move rfl rfl) ?_
      refine WL_do rfl rfl rfl (D_call (nready_nl ) rfl rfl rfl rfl (pqC)) ?_
      rintro _ _ ⟨_, ⟨rfl, rfl⟩, rfl⟩
      refine WL_val rfl rfl rfl (R_len rfl Tryz.underlying34 rfl) ?_
      refine WL_val rfl rfl rfl (R_neq rfl rfl rfl) ?_
      refine WL_set (s := 221) (v := .bool false) rfl (by simp) ?_
      refine WL_val rfl rfl rfl (R_move rfl rfl) ?_
      refine WL_val rfl rfl rfl (R_move rfl rfl) ?_
      refine WL_do rfl rfl rfl (D_call (nnow_nl ) rfl rfl rfl rfl (pqC)) ?_
      rintro _ _ ⟨_, ⟨rfl, rfl⟩, rfl⟩
      refine WL_val rfl rfl rfl (R_neq rfl rfl rfl) ?_
      refine WL_set (s := 225) (v := .bool false) rfl (by simp) ?_
      refine WL_val rfl rfl rfl (R_pickF rfl rfl rfl) ?_
      refine WL_val rfl rfl rfl (R_move rfl rfl) ?_
      refine WL_val rfl rfl rfl (R_move rfl rfl) ?_
      refine WL_do rfl rfl rfl (D_call (nnext_nl ) rfl rfl rfl rfl (pqC)) ?_
      rintro _ _ ⟨_, ⟨rfl, rfl⟩, rfl⟩
      refine WL_val rfl rfl rfl (R_neq rfl rfl rfl) ?_
      refine WL_set (s := 230) (v := .bool false) rfl (by simp) ?_
      refine WL_val rfl rfl rfl (R_pickF rfl rfl rfl) ?_
      refine WL_val rfl rfl rfl (R_move rfl rfl) ?_
      refine WL_val rfl rfl rfl (R_move rfl rfl) ?_
      refine WL_do rfl rfl rfl (D_call (ncopy_nl ) rfl rfl rfl rfl (pqC)) ?_
      rintro _ _ ⟨_, ⟨rfl, rfl⟩, rfl⟩
      refine WL_val rfl rfl rfl (R_ptrNeNil rfl Tryz.underlying23 rfl) ?_
      refine WL_val rfl rfl rfl (R_pickF rfl rfl rfl) ?_
      refine WL_nil ?_
      refine WQ_code ?_
      refine WC_F rfl ?_
      refine WC_skip ?_
      refine WQ_code ?_
      refine WC_region ?_
      refine WL_val rfl rfl rfl (R_add rfl rfl rfl (by omega)) ?_
      refine WL_val rfl rfl rfl (R_move rfl rfl) ?_
      refine WL_nil ?_
      refine WQ_nextF (1) (by omega) (by omega) leZ (psZ) rfl (pqC)
    · refine WC_skip ?_
      refine WQ_code ?_
      refine WC_seq ?_
      refine WC_block ?_
      refine WC_seq ?_
      refine WC_region ?_
      refine WL_val rfl rfl rfl (R_indexAddrN rfl Tryz.underlying93 Tryz.sizeOf23 rfl rfl (by omega)) ?_
      refine WL_val rfl rfl rfl (R_load (v := ptrH b2) rfl sc23 rfl (mmC) (rfl)) ?_
      refine WL_val rfl rfl rfl (R_assign rfl rfl) ?_
      refine WL_nil ?_
      refine WQ_code ?_
      refine WC_seq ?_
      refine WC_region ?_
      refine WL_val rfl rfl rfl (R_move rfl rfl) ?_
      refine WL_val rfl rfl rfl (R_move rfl rfl) ?_
      refine WL_do rfl rfl rfl (D_call (nopen_zr b2 i) rfl rfl rfl rfl (pqC)) ?_
      rintro _ _ ⟨_, ⟨rfl, rfl⟩, rfl⟩
      refine WL_val rfl rfl rfl (R_move rfl rfl) ?_
      refine WL_val rfl rfl rfl (R_extract rfl rfl rfl) ?_
      refine WL_val rfl rfl rfl (R_extract rfl rfl rfl) ?_
      refine WL_do rfl rfl rfl (D_alloc rfl zv30) ?_
      rintro _ _ ⟨b6, rfl, rfl⟩
      refine WL_do0 rfl rfl (D_store (vs := [_, _]) rfl Tryz.sizeOf30 rfl rfl rfl rfl rfl (plC) (by exact Nat.le_of_ble_eq_true rfl)) ?_
      rintro _ _ rfl
      refine WL_val rfl rfl rfl (R_assign rfl rfl) ?_
      refine WL_nil ?_
      refine WQ_code ?_
      refine WC_seq ?_
      refine WC_region ?_
      refine WL_val rfl rfl rfl (R_move rfl rfl) ?_
      refine WL_val rfl rfl rfl (R_loadA (vs := [_, _]) rfl ag30 rfl (mmC) rfl (atZ)) ?_
      refine WL_do rfl rfl rfl (D_call (nclose_zr b2 n g) rfl rfl rfl rfl (pqC)) ?_
      rintro _ _ ⟨_, ⟨rfl, rfl⟩, rfl⟩
      refine WL_val rfl rfl rfl (R_move rfl rfl) ?_
      refine WL_val rfl rfl rfl (R_extract rfl rfl rfl) ?_
      refine WL_val rfl rfl rfl (R_extract rfl rfl rfl) ?_
      refine WL_val rfl rfl rfl (R_assign rfl rfl) ?_
      refine WL_val rfl rfl rfl (R_assign rfl rfl) ?_
      refine WL_nil ?_
      refine WQ_code ?_
      refine WC_seq ?_
      refine WC_region ?_
      refine WL_val rfl rfl rfl (R_move rfl rfl) ?_
      refine WL_val rfl rfl rfl (R_loadA (vs := [_, _]) rfl ag30 rfl (mmC) rfl (atZ)) ?_
      refine WL_do rfl rfl rfl (D_call (nvalue_zr b2 n g) rfl rfl rfl rfl (pqC)) ?_
      rintro _ _ ⟨_, ⟨rfl, rfl⟩, rfl⟩
      refine WL_val rfl rfl rfl (R_move rfl rfl) ?_
      refine WL_val rfl rfl rfl (R_extract rfl rfl rfl) ?_
      refine WL_val rfl rfl rfl (R_extract rfl rfl rfl) ?_
      refine WL_val rfl rfl rfl (R_assign rfl rfl) ?_
      refine WL_val rfl rfl rfl (R_assign rfl rfl) ?_
      refine WL_nil ?_
      refine WQ_code ?_
      refine WC_seq ?_
      refine WC_region ?_
      refine WL_val rfl rfl rfl (R_move rfl rfl) ?_
      refine WL_val rfl rfl rfl (R_loadA (vs := [_, _]) rfl ag30 rfl (mmC) rfl (atZ)) ?_
      refine WL_val rfl rfl rfl (R_move rfl rfl) ?_
      refine WL_val rfl rfl rfl (R_move rfl rfl) ?_
      refine WL_do rfl rfl rfl (D_call (ndead_zr b2 n g dir (k : Int)) rfl rfl rfl rfl (pqC)) ?_
      rintro _ _ ⟨_, ⟨rfl, rfl⟩, rfl⟩
      refine WL_val rfl rfl rfl (R_move rfl rfl) ?_
      refine WL_val rfl rfl rfl (R_extract rfl rfl rfl) ?_
      refine WL_val rfl rfl rfl (R_extract rfl rfl rfl) ?_
      refine WL_val rfl rfl rfl (R_assign rfl rfl) ?_
      refine WL_val rfl rfl rfl (R_assign rfl rfl) ?_
      refine WL_nil ?_
      refine WQ_code ?_
      refine WC_seq ?_
      refine WC_seq ?_
      refine WC_draw _ [(0, true), (1, true), (2, true), (3, true), (4, true), (5, true), (6, true), (7, true), (8, true), (9, true), (10, true), (11, true), (12, true), (13, true), (14, true), (15, true), (16, true), (17, true), (18, true), (19, true), (20, true), (21, true), (22, true), (23, true), (24, true), (25, true), (26, true), (27, true), (28, true), (29, true), (30, true), (31, true), (32, true)] followsMixed rfl rfl (by kernel_rfl) .all ?_
      refine WM_val rfl rfl rfl rfl (R_loadA (vs := [_, _]) rfl ag30 rfl (mmC) rfl (atZ)) ?_
      refine WM_call rfl (Spec.quiet (lfd_ok 0 0)) rfl rfl rfl rfl rfl rfl rfl (pqC) ?_
      refine WM_val rfl rfl rfl rfl (R_sne30 rfl rfl rfl rfl) ?_
      refine WM_set (s := 64) (v := .bool false) rfl (by simp) ?_
      refine WM_val rfl rfl rfl rfl (R_move rfl rfl) ?_
      refine WM_val rfl rfl rfl rfl (R_move rfl rfl) ?_
      refine WM_val rfl rfl rfl rfl (R_neq rfl rfl rfl) ?_
      refine WM_set (s := 67) (v := .bool false) rfl (by simp) ?_
      refine WM_val rfl rfl rfl rfl (R_pickF rfl rfl rfl) ?_
      refine WM_val rfl rfl rfl rfl (R_move rfl rfl) ?_
      refine WM_val rfl rfl rfl rfl (R_move rfl rfl) ?_
      refine WM_val rfl rfl rfl rfl (R_len rfl Tryz.underlying34 rfl) ?_
      refine WM_val rfl rfl rfl rfl (R_neq rfl rfl rfl) ?_
      refine WM_set (s := 72) (v := .bool false) rfl (by simp) ?_
      refine WM_val rfl rfl rfl rfl (R_pickF rfl rfl rfl) ?_
      refine WM_val rfl rfl rfl rfl (R_move rfl rfl) ?_
      refine WM_val rfl rfl rfl rfl (R_move rfl rfl) ?_
      refine WM_val rfl rfl rfl rfl (R_neq rfl rfl rfl) ?_
      refine WM_set (s := 76) (v := .bool false) rfl (by simp) ?_
      refine WM_val rfl rfl rfl rfl (R_pickF rfl rfl rfl) ?_
      refine WM_val rfl rfl rfl rfl (R_move rfl rfl) ?_
      refine WM_val rfl rfl rfl rfl (R_move rfl rfl) ?_
      refine WM_val rfl rfl rfl rfl (R_neq rfl rfl rfl) ?_
      refine WM_set (s := 80) (v := .bool false) rfl (by simp) ?_
      refine WM_val rfl rfl rfl rfl (R_pickF rfl rfl rfl) ?_
      refine WM_val rfl rfl rfl rfl (R_move rfl rfl) ?_
      refine WM_val rfl rfl rfl rfl (R_move rfl rfl) ?_
      refine WM_val rfl rfl rfl rfl (R_neq rfl rfl rfl) ?_
      refine WM_set (s := 84) (v := .bool false) rfl (by simp) ?_
      refine WM_val rfl rfl rfl rfl (R_pickF rfl rfl rfl) ?_
      refine WM_val rfl rfl rfl rfl (R_move rfl rfl) ?_
      refine WM_val rfl rfl rfl rfl (R_move rfl rfl) ?_
      refine WM_val rfl rfl rfl rfl (R_len rfl Tryz.underlying34 rfl) ?_
      refine WM_val rfl rfl rfl rfl (R_neq rfl rfl rfl) ?_
      refine WM_set (s := 89) (v := .bool false) rfl (by simp) ?_
      refine WM_val rfl rfl rfl rfl (R_pickF rfl rfl rfl) ?_
      refine WM_val rfl rfl rfl rfl (R_move rfl rfl) ?_
      refine WM_val rfl rfl rfl rfl (R_move rfl rfl) ?_
      refine WM_val rfl rfl rfl rfl (R_neq rfl rfl rfl) ?_
      refine WM_set (s := 93) (v := .bool false) rfl (by simp) ?_
      refine WM_val rfl rfl rfl rfl (R_pickF rfl rfl rfl) ?_
      refine WM_nil ?_
      refine WQ_code ?_
      refine WC_F rfl ?_
      refine WC_skip ?_
      refine WQ_code ?_
      refine WC_seq ?_
      refine WC_region ?_
      refine WL_val rfl rfl rfl (R_move rfl rfl) ?_
      refine WL_val rfl rfl rfl (R_loadA (vs := [_, _]) rfl ag30 rfl (mmC) rfl (atZ)) ?_
      refine WL_val rfl rfl rfl (R_move rfl rfl) ?_
      refine WL_do rfl rfl rfl (D_call (nsig_zr b2 n g dir) rfl rfl rfl rfl (pqC)) ?_
      rintro _ _ ⟨_, ⟨rfl, rfl⟩, rfl⟩
      refine WL_val rfl rfl rfl (R_move rfl rfl) ?_
      refine WL_val rfl rfl rfl (R_extract rfl rfl rfl) ?_
      refine WL_val rfl rfl rfl (R_extract rfl rfl rfl) ?_
      refine WL_val rfl rfl rfl (R_assign rfl rfl) ?_
      refine WL_val rfl rfl rfl (R_assign rfl rfl) ?_
      refine WL_nil ?_
      refine WQ_code ?_
      refine WC_seq ?_
      refine WC_region ?_
      refine WL_val rfl rfl rfl (R_move rfl rfl) ?_
      refine WL_val rfl rfl rfl (R_loadA (vs := [_, _]) rfl ag30 rfl (mmC) rfl (atZ)) ?_
      refine WL_val rfl rfl rfl (R_move rfl rfl) ?_
      refine WL_do rfl rfl rfl (D_call (nsigall_zr b2 n g dir) rfl rfl rfl rfl (pqC)) ?_
      rintro _ _ ⟨_, ⟨rfl, rfl⟩, rfl⟩
      refine WL_val rfl rfl rfl (R_move rfl rfl) ?_
      refine WL_val rfl rfl rfl (R_extract rfl rfl rfl) ?_
      refine WL_val rfl rfl rfl (R_extract rfl rfl rfl) ?_
      refine WL_val rfl rfl rfl (R_assign rfl rfl) ?_
      refine WL_val rfl rfl rfl (R_assign rfl rfl) ?_
      refine WL_nil ?_
      refine WQ_code ?_
      refine WC_seq ?_
      refine WC_region ?_
      refine WL_val rfl rfl rfl (R_move rfl rfl) ?_
      refine WL_val rfl rfl rfl (R_move rfl rfl) ?_
      refine WL_do rfl rfl rfl (D_call (nadv_zr b2 (k : Int)) rfl rfl rfl rfl (pqC)) ?_
      rintro _ _ ⟨_, ⟨rfl, rfl⟩, rfl⟩
      refine WL_val rfl rfl rfl (R_move rfl rfl) ?_
      refine WL_val rfl rfl rfl (R_extract rfl rfl rfl) ?_
      refine WL_val rfl rfl rfl (R_extract rfl rfl rfl) ?_
      refine WL_val rfl rfl rfl (R_assign rfl rfl) ?_
      refine WL_val rfl rfl rfl (R_assign rfl rfl) ?_
      refine WL_nil ?_
      refine WQ_code ?_
      refine WC_seq ?_
      refine WC_region ?_
      refine WL_val rfl rfl rfl (R_move rfl rfl) ?_
      refine WL_val rfl rfl rfl (R_move rfl rfl) ?_
      refine WL_do rfl rfl rfl (D_call (nrsn_zr b2 i) rfl rfl rfl rfl (pqC)) ?_
      rintro _ _ ⟨_, ⟨rfl, rfl⟩, rfl⟩
      refine WL_val rfl rfl rfl (R_move rfl rfl) ?_
      refine WL_val rfl rfl rfl (R_extract rfl rfl rfl) ?_
      refine WL_val rfl rfl rfl (R_extract rfl rfl rfl) ?_
      refine WL_val rfl rfl rfl (R_assign rfl rfl) ?_
      refine WL_val rfl rfl rfl (R_assign rfl rfl) ?_
      refine WL_nil ?_
      refine WQ_code ?_
      refine WC_seq ?_
      refine WC_seq ?_
      refine WC_region ?_
      refine WL_val rfl rfl rfl (R_move rfl rfl) ?_
      refine WL_val rfl rfl rfl (R_neq rfl rfl rfl) ?_
      refine WL_set (s := 122) (v := .bool false) rfl (by simp) ?_
      refine WL_val rfl rfl rfl (R_move rfl rfl) ?_
      refine WL_val rfl rfl rfl (R_move rfl rfl) ?_
      refine WL_val rfl rfl rfl (R_neq rfl rfl rfl) ?_
      refine WL_set (s := 125) (v := .bool false) rfl (by simp) ?_
      refine WL_val rfl rfl rfl (R_pickF rfl rfl rfl) ?_
      refine WL_val rfl rfl rfl (R_move rfl rfl) ?_
      refine WL_val rfl rfl rfl (R_move rfl rfl) ?_
      refine WL_val rfl rfl rfl (R_len rfl Tryz.underlying34 rfl) ?_
      refine WL_val rfl rfl rfl (R_neq rfl rfl rfl) ?_
      refine WL_set (s := 130) (v := .bool false) rfl (by simp) ?_
      refine WL_val rfl rfl rfl (R_pickF rfl rfl rfl) ?_
      refine WL_val rfl rfl rfl (R_move rfl rfl) ?_
      refine WL_val rfl rfl rfl (R_move rfl rfl) ?_
      refine WL_val rfl rfl rfl (R_neq rfl rfl rfl) ?_
      refine WL_set (s := 134) (v := .bool false) rfl (by simp) ?_
      refine WL_val rfl rfl rfl (R_pickF rfl rfl rfl) ?_
      refine WL_val rfl rfl rfl (R_move rfl rfl) ?_
      refine WL_val rfl rfl rfl (R_move rfl rfl) ?_
      refine WL_val rfl rfl rfl (R_len rfl Tryz.underlying34 rfl) ?_
      refine WL_val rfl rfl rfl (R_neq rfl rfl rfl) ?_
      refine WL_set (s := 139) (v := .bool false) rfl (by simp) ?_
      refine WL_val rfl rfl rfl (R_pickF rfl rfl rfl) ?_
      refine WL_val rfl rfl rfl (R_move rfl rfl) ?_
      refine WL_val rfl rfl rfl (R_move rfl rfl) ?_
      refine WL_val rfl rfl rfl (R_neq rfl rfl rfl) ?_
      refine WL_set (s := 143) (v := .bool false) rfl (by simp) ?_
      refine WL_val rfl rfl rfl (R_pickF rfl rfl rfl) ?_
      refine WL_val rfl rfl rfl (R_move rfl rfl) ?_
      refine WL_val rfl rfl rfl (R_move rfl rfl) ?_
      refine WL_val rfl rfl rfl (R_neq rfl rfl rfl) ?_
      refine WL_set (s := 147) (v := .bool false) rfl (by simp) ?_
      refine WL_val rfl rfl rfl (R_pickF rfl rfl rfl) ?_
      refine WL_val rfl rfl rfl (R_move rfl rfl) ?_
      refine WL_val rfl rfl rfl (R_move rfl rfl) ?_
      refine WL_val rfl rfl rfl (R_neq rfl rfl rfl) ?_
      refine WL_set (s := 151) (v := .bool false) rfl (by simp) ?_
      refine WL_val rfl rfl rfl (R_pickF rfl rfl rfl) ?_
      refine WL_nil ?_
      refine WQ_code ?_
      refine WC_F rfl ?_
      refine WC_skip ?_
      refine WQ_code ?_
      refine WC_seq ?_
      refine WC_region ?_
      refine WL_val rfl rfl rfl (R_move rfl rfl) ?_
      refine WL_val rfl rfl rfl (R_move rfl rfl) ?_
      refine WL_do rfl rfl rfl (D_call (nstate_zr b2 i) rfl rfl rfl rfl (pqC)) ?_
      rintro _ _ ⟨_, ⟨rfl, rfl⟩, rfl⟩
      refine WL_val rfl rfl rfl (R_move rfl rfl) ?_
      refine WL_val rfl rfl rfl (R_extract rfl rfl rfl) ?_
      refine WL_val rfl rfl rfl (R_extract rfl rfl rfl) ?_
      refine WL_val rfl rfl rfl (R_assign rfl rfl) ?_
      refine WL_val rfl rfl rfl (R_assign rfl rfl) ?_
      refine WL_nil ?_
      refine WQ_code ?_
      refine WC_seq ?_
      refine WC_region ?_
      refine WL_val rfl rfl rfl (R_move rfl rfl) ?_
      refine WL_val rfl rfl rfl (R_move rfl rfl) ?_
      refine WL_do rfl rfl rfl (D_call (nwhr_zr b2 i) rfl rfl rfl rfl (pqC)) ?_
      rintro _ _ ⟨_, ⟨rfl, rfl⟩, rfl⟩
      refine WL_val rfl rfl rfl (R_move rfl rfl) ?_
      refine WL_val rfl rfl rfl (R_extract rfl rfl rfl) ?_
      refine WL_val rfl rfl rfl (R_extract rfl rfl rfl) ?_
      refine WL_val rfl rfl rfl (R_extract rfl rfl rfl) ?_
      refine WL_do rfl rfl rfl (D_alloc rfl zv30) ?_
      rintro _ _ ⟨b7, rfl, rfl⟩
      refine WL_do0 rfl rfl (D_store (vs := [_, _]) rfl Tryz.sizeOf30 rfl rfl rfl rfl rfl (plC) (by exact Nat.le_of_ble_eq_true rfl)) ?_
      rintro _ _ rfl
      refine WL_val rfl rfl rfl (R_assign rfl rfl) ?_
      refine WL_val rfl rfl rfl (R_assign rfl rfl) ?_
      refine WL_nil ?_
      refine WQ_code ?_
      refine WC_seq ?_
      refine WC_seq ?_
      refine WC_draw _ [(0, true), (1, true), (2, true), (3, true), (4, true), (5, true), (6, true), (7, true), (8, true), (9, true), (10, true), (11, true), (12, true), (13, true), (14, true), (15, true), (16, true), (17, true), (18, true), (19, true), (20, true), (21, true), (22, true), (23, true), (24, true), (25, true), (26, true), (27, true), (28, true), (29, true), (30, true), (31, true), (32, true), (33, true), (34, true), (35, true), (36, true), (37, true), (38, true), (39, true), (40, true), (41, true), (42, true), (43, true), (44, true), (45, true), (46, true), (47, true), (48, true), (49, true), (50, true), (51, true)] followsMixed rfl rfl (by kernel_rfl) .all ?_
      refine WM_val rfl rfl rfl rfl (R_move rfl rfl) ?_
      refine WM_val rfl rfl rfl rfl (R_neq rfl rfl rfl) ?_
      refine WM_set (s := 167) (v := .bool false) rfl (by simp) ?_
      refine WM_val rfl rfl rfl rfl (R_move rfl rfl) ?_
      refine WM_val rfl rfl rfl rfl (R_move rfl rfl) ?_
      refine WM_val rfl rfl rfl rfl (R_neq rfl rfl rfl) ?_
      refine WM_set (s := 170) (v := .bool false) rfl (by simp) ?_
      refine WM_val rfl rfl rfl rfl (R_pickF rfl rfl rfl) ?_
      refine WM_val rfl rfl rfl rfl (R_move rfl rfl) ?_
      refine WM_val rfl rfl rfl rfl (R_loadA (vs := [_, _]) rfl ag30 rfl (mmC) rfl (atZ)) ?_
      refine WM_call rfl (Spec.quiet (lfd_ok 0 0)) rfl rfl rfl rfl rfl rfl rfl (pqC) ?_
      refine WM_val rfl rfl rfl rfl (R_sne30 rfl rfl rfl rfl) ?_
      refine WM_set (s := 175) (v := .bool false) rfl (by simp) ?_
      refine WM_val rfl rfl rfl rfl (R_pickF rfl rfl rfl) ?_
      refine WM_val rfl rfl rfl rfl (R_move rfl rfl) ?_
      refine WM_val rfl rfl rfl rfl (R_move rfl rfl) ?_
      refine WM_val rfl rfl rfl rfl (R_neq rfl rfl rfl) ?_
      refine WM_set (s := 179) (v := .bool false) rfl (by simp) ?_
      refine WM_val rfl rfl rfl rfl (R_pickF rfl rfl rfl) ?_
      refine WM_val rfl rfl rfl rfl (R_move rfl rfl) ?_
      refine WM_val rfl rfl rfl rfl (R_move rfl rfl) ?_
      refine WM_val rfl rfl rfl rfl (R_neq rfl rfl rfl) ?_
      refine WM_set (s := 183) (v := .bool false) rfl (by simp) ?_
      refine WM_val rfl rfl rfl rfl (R_pickF rfl rfl rfl) ?_
      refine WM_val rfl rfl rfl rfl (R_move rfl rfl) ?_
      refine WM_val rfl rfl rfl rfl (R_move rfl rfl) ?_
      refine WM_val rfl rfl rfl rfl (R_loadA (vs := [_, _]) rfl ag30 rfl (mmC) rfl (atZ)) ?_
      refine WM_val rfl rfl rfl rfl (R_move rfl rfl) ?_
      refine WM_call rfl (Spec.quiet (nchk_zr b2 n g dir)) rfl rfl rfl rfl rfl rfl rfl (pqC) ?_
      refine WM_val rfl rfl rfl rfl (R_neq rfl rfl rfl) ?_
      refine WM_set (s := 190) (v := .bool false) rfl (by simp) ?_
      refine WM_val rfl rfl rfl rfl (R_pickF rfl rfl rfl) ?_
      refine WM_val rfl rfl rfl rfl (R_move rfl rfl) ?_
      refine WM_val rfl rfl rfl rfl (R_move rfl rfl) ?_
      refine WM_val rfl rfl rfl rfl (R_move rfl rfl) ?_
      refine WM_val rfl rfl rfl rfl (R_loadA (vs := [_, _]) rfl ag30 rfl (mmC) rfl (atZ)) ?_
      refine WM_val rfl rfl rfl rfl (R_move rfl rfl) ?_
      refine WM_call rfl (Spec.quiet (nwait_zr b2 i n g dir)) rfl rfl rfl rfl rfl rfl rfl (pqC) ?_
      refine WM_val rfl rfl rfl rfl (R_neq rfl rfl rfl) ?_
      refine WM_set (s := 198) (v := .bool false) rfl (by simp) ?_
      refine WM_val rfl rfl rfl rfl (R_pickF rfl rfl rfl) ?_
      refine WM_val rfl rfl rfl rfl (R_move rfl rfl) ?_
      refine WM_val rfl rfl rfl rfl (R_move rfl rfl) ?_
      refine WM_val rfl rfl rfl rfl (R_move rfl rfl) ?_
      refine WM_call rfl (Spec.quiet (nstart_zr b2 i)) rfl rfl rfl rfl rfl rfl rfl (pqC) ?_
      refine WM_val rfl rfl rfl rfl (R_neq rfl rfl rfl) ?_
      refine WM_set (s := 204) (v := .bool false) rfl (by simp) ?_
      refine WM_val rfl rfl rfl rfl (R_pickF rfl rfl rfl) ?_
      refine WM_val rfl rfl rfl rfl (R_move rfl rfl) ?_
      refine WM_val rfl rfl rfl rfl (R_move rfl rfl) ?_
      refine WM_val rfl rfl rfl rfl (R_move rfl rfl) ?_
      refine WM_call rfl (Spec.quiet (nfin_zr b2 i)) rfl rfl rfl rfl rfl rfl rfl (pqC) ?_
      refine WM_val rfl rfl rfl rfl (R_neq rfl rfl rfl) ?_
      refine WM_set (s := 210) (v := .bool false) rfl (by simp) ?_
      refine WM_val rfl rfl rfl rfl (R_pickF rfl rfl rfl) ?_
      refine WM_val rfl rfl rfl rfl (R_move rfl rfl) ?_
      refine WM_val rfl rfl rfl rfl (R_move rfl rfl) ?_
      refine WM_val rfl rfl rfl rfl (R_move rfl rfl) ?_
      refine WM_call rfl (Spec.quiet (nturn_zr b2 i)) rfl rfl rfl rfl rfl rfl rfl (pqC) ?_
      refine WM_val rfl rfl rfl rfl (R_neq rfl rfl rfl) ?_
      refine WM_set (s := 216) (v := .bool false) rfl (by simp) ?_
      refine WM_val rfl rfl rfl rfl (R_pickF rfl rfl rfl) ?_
      refine WM_nil ?_
      refine WQ_code ?_
      refine WC_F rfl ?_
      refine WC_skip ?_
      refine WQ_code ?_
      refine WC_seq ?_
      refine WC_region ?_
      refine WL_val rfl rfl rfl (R_move rfl rfl) ?_
      refine WL_do rfl rfl rfl (D_call (nready_zr b2 ) rfl rfl rfl rfl (pqC)) ?_
      rintro _ _ ⟨_, ⟨rfl, rfl⟩, rfl⟩
      refine WL_val rfl rfl rfl (R_len rfl Tryz.underlying34 rfl) ?_
      refine WL_val rfl rfl rfl (R_neq rfl rfl rfl) ?_
      refine WL_set (s := 221) (v := .bool false) rfl (by simp) ?_
      refine WL_val rfl rfl rfl (R_move rfl rfl) ?_
      refine WL_val rfl rfl rfl (R_move rfl rfl) ?_
      refine WL_do rfl rfl rfl (D_call (nnow_zr b2 ) rfl rfl rfl rfl (pqC)) ?_
      rintro _ _ ⟨_, ⟨rfl, rfl⟩, rfl⟩
      refine WL_val rfl rfl rfl (R_neq rfl rfl rfl) ?_
      refine WL_set (s := 225) (v := .bool false) rfl (by simp) ?_
      refine WL_val rfl rfl rfl (R_pickF rfl rfl rfl) ?_
      refine WL_val rfl rfl rfl (R_move rfl rfl) ?_
      refine WL_val rfl rfl rfl (R_move rfl rfl) ?_
      refine WL_do rfl rfl rfl (D_call (nnext_zr b2 ) rfl rfl rfl rfl (pqC)) ?_
      rintro _ _ ⟨_, ⟨rfl, rfl⟩, rfl⟩
      refine WL_val rfl rfl rfl (R_neq rfl rfl rfl) ?_
      refine WL_set (s := 230) (v := .bool false) rfl (by simp) ?_
      refine WL_val rfl rfl rfl (R_pickF rfl rfl rfl) ?_
      refine WL_val rfl rfl rfl (R_move rfl rfl) ?_
      refine WL_val rfl rfl rfl (R_move rfl rfl) ?_
      refine WL_do rfl rfl rfl (D_call (ncopy_zr b2 ) rfl rfl rfl rfl (pqC)) ?_
      rintro _ _ ⟨_, ⟨rfl, rfl⟩, rfl⟩
      refine WL_val rfl rfl rfl (R_ptrNeNil rfl Tryz.underlying23 rfl) ?_
      refine WL_val rfl rfl rfl (R_pickF rfl rfl rfl) ?_
      refine WL_nil ?_
      refine WQ_code ?_
      refine WC_F rfl ?_
      refine WC_skip ?_
      refine WQ_code ?_
      refine WC_region ?_
      refine WL_val rfl rfl rfl (R_add rfl rfl rfl (by omega)) ?_
      refine WL_val rfl rfl rfl (R_move rfl rfl) ?_
      refine WL_nil ?_
      refine WQ_nextF (2) (by omega) (by omega) leZ (psZ) rfl (pqC)
  · refine WC_exit ?_
    refine WQ_code ?_
    refine WC_seq ?_
    refine WC_region ?_
    refine WL_do rfl rfl rfl (D_call (known_ok) rfl rfl rfl rfl (pqC)) ?_
    rintro _ _ ⟨_, ⟨rfl, rfl⟩, rfl⟩
    refine WL_val rfl rfl rfl (R_assign rfl rfl) ?_
    refine WL_nil ?_
    refine WQ_code ?_
    refine WC_ret ?_
    refine WQ_ret rfl rfl (.cons (.tmp rfl) .nil) rfl (by
        exact ⟨rfl, rfl⟩) (pqC)
end Go.Proofs.YtbkdebnkoidicaaGreat
end
