/-
  Chapter 11 (poller), part Cmp: contracts of functions that the laws call, each for the heap it names.
-/
import Derived.Test.YtbkdebnkoidicaaGreatY02
import Derived.Test.YtbkdebnkoidicaaGreatRows
section
set_option linter.unusedVariables false
set_option maxRecDepth 20000
set_option maxHeartbeats 4000000
namespace Go.Proofs.YtbkdebnkoidicaaGreat
structure UW where
  i : Nat
  E : List El
  l : List Nat
structure DW2 where
  c : Nat
  m : Nat
theorem up_ok (p bx be ne ce : Nat) (te : List Value) (n bl nl c : Nat) (tl : List Value) (E0 E : List El) (l : List Nat) (s : St E0 E l) (hne : E0.length = ne) (hnl : l.length = nl) (hbig : nl ≤ 2000) (i : Nat) (hi : i < nl) (hf : HFix (rkl E0 l) nl i) :
    Spec Tryz.prog 210 [.pointer (some ⟨p, 3, none⟩), .int .i64 (i : Int)] (hR p bx be ne ce te n bl nl c tl E l) (fun r H' => ∃ E' l', r = .tuple #[] ∧ H' = hR p bx be ne ce te n bl nl c tl E' l' ∧ St E0 E' l' ∧ l'.Perm l ∧ HDown (rkl E0 l') nl i) := by
  refine Spec.of (E := [(0, .pointer (some ⟨p, 3, none⟩)), (1, .int .i64 (i : Int))]) Tryz.func210 rfl (by kernel_rfl) Tryz.ntmps210 rfl rfl (fun w => ?_)
  refine WC_block ?_
  refine WC_loopF (G := UW) [1, 4, 5, 6, 7, 8, 9, 10, 11, 12, 13, 14, 15, 16, 17, 18, 19, 20, 21, 22, 23, 24, 25, 26, 27, 28, 29, 30, 31, 32, 33, 34, 35, 36, 37] (fun y => St E0 y.E y.l ∧ y.l.length = nl ∧ y.i < nl ∧ HFix (rkl E0 y.l) nl y.i ∧ (y.i = i ∨ HUp (rkl E0 y.l) nl y.i) ∧ y.l.Perm l) (fun y => [(1, .int .i64 (y.i : Int))]) (fun y => hR p bx be ne ce te n bl nl c tl y.E y.l) (fun y => y.i) (⟨i, E, l⟩) (⟨s, hnl, hi, hf, .inl rfl, .refl _⟩) leZ (pqY) ?_
  rintro y ⟨hs, hyl, hyi, hyf, hyu, hyp⟩
  refine WC_seq ?_
  refine WC_seq ?_
  refine WC_draw _ [(0, true), (1, true), (2, true), (3, true), (4, true), (5, true), (6, true), (7, true), (8, true), (9, true), (10, true), (11, true), (12, true), (13, true), (14, true), (15, true), (16, true), (17, true), (18, true), (19, true), (20, true), (21, true), (22, true), (23, true), (24, true)] followsMixed rfl rfl (by kernel_rfl) .all ?_
  refine WM_val rfl rfl rfl rfl (R_move rfl rfl) ?_
  refine WM_val rfl rfl rfl rfl (R_gtr rfl rfl rfl) ?_
  refine WM_val rfl rfl rfl rfl (R_move rfl rfl) ?_
  refine WM_splitD (s := 6) rfl (fun c1 => ?_) (fun c1 => ?_)
  · have h6 : ((y.i : Nat) : Int) > 0 := c1
    obtain ⟨q, hq⟩ : ∃ q, q = (y.i - 1) / 4 := ⟨_, rfl⟩
    obtain ⟨ha, xa, hla, ga, hxa, pa⟩ := hs.get (i := y.i) (by omega)
    obtain ⟨hb, xb, hlb, gb, hxb, pb⟩ := hs.get (i := q) (by omega)
    have ra : rkl E0 y.l y.i = rk y.E ha := by rw [rkl, ← hs.rk, ga]
    have rb : rkl E0 y.l q = rk y.E hb := by rw [rkl, ← hs.rk, gb]
    refine WM_val rfl rfl rfl rfl (R_move rfl rfl) ?_
    refine WM_val rfl rfl rfl rfl (R_nilCheck rfl rfl) ?_
    refine WM_val rfl rfl rfl rfl (R_fieldAddr rfl fa291_1 rfl) ?_
    refine WM_val rfl rfl rfl rfl (R_load rfl sc39 rfl (mmY) rfl) ?_
    refine WM_val rfl rfl rfl rfl (R_move rfl rfl) ?_
    refine WM_val rfl rfl rfl rfl (R_nilCheck rfl rfl) ?_
    refine WM_val rfl rfl rfl rfl (R_fieldAddr rfl fa291_0 rfl) ?_
    refine WM_val rfl rfl rfl rfl (R_load rfl sc34 rfl (mmY) rfl) ?_
    refine WM_val rfl rfl rfl rfl (R_move rfl rfl) ?_
    refine WM_val rfl rfl rfl rfl (R_indexAddrN rfl Tryz.underlying34 Tryz.sizeOf3 rfl rfl (by omega)) ?_
    refine WM_val rfl rfl rfl rfl (R_load (v := .int .i64 ((ha : Nat) : Int)) rfl sc3 rfl (mmY) (fm_get0 encN1 hla (j := 0) (by omega))) ?_
    refine WM_val rfl rfl rfl rfl (R_move rfl rfl) ?_
    refine WM_val rfl rfl rfl rfl (R_nilCheck rfl rfl) ?_
    refine WM_val rfl rfl rfl rfl (R_fieldAddr rfl fa291_0 rfl) ?_
    refine WM_val rfl rfl rfl rfl (R_load rfl sc34 rfl (mmY) rfl) ?_
    refine WM_val rfl rfl rfl rfl (R_move rfl rfl) ?_
    refine WM_val rfl rfl rfl rfl (R_sub rfl rfl rfl (by omega)) ?_
    refine WM_val rfl rfl rfl rfl (R_quoR (r := ((q : Nat) : Int)) rfl rfl rfl (by omega) (quo4 (by omega) (by omega) hq)) ?_
    refine WM_val rfl rfl rfl rfl (R_indexAddrN rfl Tryz.underlying34 Tryz.sizeOf3 rfl rfl (by omega)) ?_
    refine WM_val rfl rfl rfl rfl (R_load (v := .int .i64 ((hb : Nat) : Int)) rfl sc3 rfl (mmY) (fm_get0 encN1 hlb (j := 0) (by omega))) ?_
    refine WM_call rfl (Spec.quiet (bef_ok p bx be ne ce te n bl nl c tl y.E y.l (by rw [hs.len]; exact hne) ha hb xa xb hxa hxb (hs.sq _ _ hxa) (hs.sq _ _ hxb))) rfl rfl rfl rfl rfl rfl rfl (pqY) ?_
    refine WM_val rfl rfl rfl rfl (R_pickT rfl rfl rfl) ?_
    refine WM_nil ?_
    refine WQ_code ?_
    refine WC_dec rfl (fun c2 => ?_) (fun c2 => ?_)
    · have hlt : rk y.E ha < rk y.E hb := c2
      refine WC_skip ?_
      refine WQ_code ?_
      refine WC_block ?_
      refine WC_seq ?_
      refine WC_region ?_
      refine WL_val rfl rfl rfl (R_move rfl rfl) ?_
      refine WL_val rfl rfl rfl (R_move rfl rfl) ?_
      refine WL_val rfl rfl rfl (R_move rfl rfl) ?_
      refine WL_val rfl rfl rfl (R_sub rfl rfl rfl (by omega)) ?_
      refine WL_val rfl rfl rfl (R_quoR (r := ((q : Nat) : Int)) rfl rfl rfl (by omega) (quo4 (by omega) (by omega) hq)) ?_
      refine WL_do rfl rfl rfl (D_call (swap_ok p bx be ne ce te n bl nl c tl y.E y.l (by rw [hs.len]; exact hne) hyl y.i q (by omega) (by omega) xa xb (by rw [ga]; exact hxa) (by rw [gb]; exact hxb)) rfl rfl rfl rfl (pqY)) ?_
      rintro _ _ ⟨_, ⟨rfl, rfl⟩, rfl⟩
      refine WL_nil ?_
      refine WQ_code ?_
      refine WC_region ?_
      refine WL_val rfl rfl rfl (R_move rfl rfl) ?_
      refine WL_val rfl rfl rfl (R_sub rfl rfl rfl (by omega)) ?_
      refine WL_val rfl rfl rfl (R_quoR (r := ((q : Nat) : Int)) rfl rfl rfl (by omega) (quo4 (by omega) (by omega) hq)) ?_
      refine WL_val rfl rfl rfl (R_assign rfl rfl) ?_
      refine WL_nil ?_
      have hup : HUp (rkl E0 (sw y.l y.i q)) nl q := up_step hyf (by omega) hyi hq (by omega) (sw_swapped (rk E0) (by omega) (by omega))
      refine WQ_nextF (⟨q, setp (setp y.E (gt0 y.l q) (y.i : Int)) (gt0 y.l y.i) (q : Int), sw y.l y.i q⟩) (⟨st_swap hs (by omega) (by omega), by dsimp only; rw [sw_len]; exact hyl, by dsimp only; omega, hup.fix, .inr hup, (sw_perm (by omega) (by omega)).trans hyp⟩) (by dsimp only; omega) leZ (psZ) rfl (pqY)
    · have hge : ¬ rk y.E ha < rk y.E hb := c2
      refine WC_exit ?_
      refine WQ_ret rfl rfl .nil rfl (by
          exact ⟨y.E, y.l, rfl, rfl, hs, hyp, up_done hyf hyu hi (.inr (by rw [← hq]; omega))⟩) (pqY)
  · have h6 : ¬ ((y.i : Nat) : Int) > 0 := c1
    refine WM_skip rfl rfl rfl rfl ?_
    refine WM_skip rfl rfl rfl rfl ?_
    refine WM_skip rfl rfl rfl rfl ?_
    refine WM_skip rfl rfl rfl rfl ?_
    refine WM_skip rfl rfl rfl rfl ?_
    refine WM_skip rfl rfl rfl rfl ?_
    refine WM_skip rfl rfl rfl rfl ?_
    refine WM_skip rfl rfl rfl rfl ?_
    refine WM_skip rfl rfl rfl rfl ?_
    refine WM_skip rfl rfl rfl rfl ?_
    refine WM_skip rfl rfl rfl rfl ?_
    refine WM_skip rfl rfl rfl rfl ?_
    refine WM_skip rfl rfl rfl rfl ?_
    refine WM_skip rfl rfl rfl rfl ?_
    refine WM_skip rfl rfl rfl rfl ?_
    refine WM_skip rfl rfl rfl rfl ?_
    refine WM_skip rfl rfl rfl rfl ?_
    refine WM_skip rfl rfl rfl rfl ?_
    refine WM_skip rfl rfl rfl rfl ?_
    refine WM_skip rfl rfl rfl rfl ?_
    refine WM_skip rfl rfl rfl rfl ?_
    refine WM_val rfl rfl rfl rfl (R_pickF rfl rfl rfl) ?_
    refine WM_nil ?_
    refine WQ_code ?_
    refine WC_F rfl ?_
    refine WC_exit ?_
    refine WQ_ret rfl rfl .nil rfl (by
        exact ⟨y.E, y.l, rfl, rfl, hs, hyp, up_done hyf hyu hi (.inl (by omega))⟩) (pqY)
theorem down_ok (p bx be ne ce : Nat) (te : List Value) (n bl nl c : Nat) (tl : List Value) (E0 E : List El) (l : List Nat) (s : St E0 E l) (hne : E0.length = ne) (hnl : l.length = nl) (hbig : nl ≤ 2000) (i : Nat) (hi : i < nl) (hd : HDown (rkl E0 l) nl i) :
    Spec Tryz.prog 217 [.pointer (some ⟨p, 3, none⟩), .int .i64 (i : Int)] (hR p bx be ne ce te n bl nl c tl E l) (fun r H' => ∃ E' l', r = .tuple #[] ∧ H' = hR p bx be ne ce te n bl nl c tl E' l' ∧ St E0 E' l' ∧ l'.Perm l ∧ HOk (rkl E0 l') nl) := by
  refine Spec.of (E := [(0, .pointer (some ⟨p, 3, none⟩)), (1, .int .i64 (i : Int))]) Tryz.func217 rfl (by kernel_rfl) Tryz.ntmps217 rfl rfl (fun w => ?_)
  refine WC_block ?_
  refine WC_loopF (G := UW) [1, 4, 5, 6, 7, 8, 9, 10, 11, 12, 13, 14, 15, 16, 17, 18, 19, 20, 21, 22, 23, 24, 25, 26, 27, 28, 29, 30, 31, 32, 33, 34, 35, 36, 37, 38, 39, 40, 41, 42, 43, 44, 45, 46, 47, 48, 49, 50, 51, 52, 53] (fun y => St E0 y.E y.l ∧ y.l.length = nl ∧ y.i < nl ∧ HDown (rkl E0 y.l) nl y.i ∧ y.l.Perm l) (fun y => [(1, .int .i64 (y.i : Int))]) (fun y => hR p bx be ne ce te n bl nl c tl y.E y.l) (fun y => nl - y.i) (⟨i, E, l⟩) (⟨s, hnl, hi, hd, .refl _⟩) leZ (pqY) ?_
  rintro y ⟨hs, hyl, hyi, hyd, hyp⟩
  refine WC_block ?_
  refine WC_seq ?_
  refine WC_region ?_
  refine WL_val rfl rfl rfl (R_move rfl rfl) ?_
  refine WL_val rfl rfl rfl (R_assign rfl rfl) ?_
  refine WL_nil ?_
  refine WQ_code ?_
  refine WC_seq ?_
  refine WC_seq ?_
  refine WC_region ?_
  refine WL_val rfl rfl rfl (R_move rfl rfl) ?_
  refine WL_val rfl rfl rfl (R_mul rfl rfl rfl (by omega)) ?_
  refine WL_val rfl rfl rfl (R_add rfl rfl rfl (by omega)) ?_
  refine WL_val rfl rfl rfl (R_assign rfl rfl) ?_
  refine WL_nil ?_
  refine WQ_code ?_
  refine WC_block ?_
  refine WC_loopF (G := DW2) [4, 5, 10, 11, 12, 13, 14, 15, 16, 17, 18, 19, 20, 21, 22, 23, 24, 25, 26, 27, 28, 29, 30, 31, 32, 33, 34, 35, 36, 37, 38, 39, 40, 41, 42, 43, 44, 45] (fun z => z.m < nl ∧ (z.m = y.i ∨ (0 < z.m ∧ (z.m - 1) / 4 = y.i)) ∧ 4 * y.i + 1 ≤ z.c ∧ z.c ≤ 4 * y.i + 5 ∧ rkl E0 y.l z.m ≤ rkl E0 y.l y.i ∧ (∀ c, 4 * y.i + 1 ≤ c → c < z.c → c < nl → rkl E0 y.l z.m ≤ rkl E0 y.l c)) (fun z => [(5, .int .i64 (z.c : Int)), (4, .int .i64 (z.m : Int))]) (fun z => []) (fun z => 4 * y.i + 5 - z.c) (⟨4 * y.i + 1, y.i⟩) (⟨hyi, .inl rfl, Nat.le_refl _, by dsimp only; omega, Nat.le_refl _, fun c h1 h2 _ => by dsimp only at h2; omega⟩) leZ (pqY) ?_
  rintro z ⟨hzm, hzi, hz1, hz5, hzr, hzc⟩
  refine WC_seq ?_
  refine WC_seq ?_
  refine WC_region ?_
  refine WL_val rfl rfl rfl (R_move rfl rfl) ?_
  refine WL_val rfl rfl rfl (R_move rfl rfl) ?_
  refine WL_val rfl rfl rfl (R_mul rfl rfl rfl (by omega)) ?_
  refine WL_val rfl rfl rfl (R_add rfl rfl rfl (by omega)) ?_
  refine WL_val rfl rfl rfl (R_leq rfl rfl rfl) ?_
  refine WL_val rfl rfl rfl (R_move rfl rfl) ?_
  refine WL_splitD (s := 15) rfl (fun c1 => ?_) (fun c1 => ?_)
  · have h15 : ((z.c : Nat) : Int) ≤ 4 * ((y.i : Nat) : Int) + 4 := c1
    refine WL_val rfl rfl rfl (R_move rfl rfl) ?_
    refine WL_val rfl rfl rfl (R_move rfl rfl) ?_
    refine WL_val rfl rfl rfl (R_nilCheck rfl rfl) ?_
    refine WL_val rfl rfl rfl (R_fieldAddr rfl fa291_0 rfl) ?_
    refine WL_val rfl rfl rfl (R_load rfl sc34 rfl (mmY) rfl) ?_
    refine WL_val rfl rfl rfl (R_len rfl Tryz.underlying34 rfl) ?_
    refine WL_val rfl rfl rfl (R_lss rfl rfl rfl) ?_
    refine WL_val rfl rfl rfl (R_pickT rfl rfl rfl) ?_
    refine WL_nil ?_
    refine WQ_code ?_
    refine WC_dec rfl (fun c2 => ?_) (fun c2 => ?_)
    · refine WC_skip ?_
      refine WQ_code ?_
      refine WC_seq ?_
      refine WC_block ?_
      refine WC_seq ?_
      refine WC_draw _ [(0, true), (1, true), (2, true), (3, true), (4, true), (5, true), (6, true), (7, true), (8, true), (9, true), (10, true), (11, true), (12, true), (13, true), (14, true), (15, true), (16, true), (17, true), (18, true)] followsMixed rfl rfl (by kernel_rfl) .all ?_
      obtain ⟨ha, xa, hla, ga, hxa, pa⟩ := hs.get (i := z.c) (by omega)
      obtain ⟨hb, xb, hlb, gb, hxb, pb⟩ := hs.get (i := z.m) (by omega)
      have ra : rkl E0 y.l z.c = rk y.E ha := by rw [rkl, ← hs.rk, ga]
      have rb : rkl E0 y.l z.m = rk y.E hb := by rw [rkl, ← hs.rk, gb]
      refine WM_val rfl rfl rfl rfl (R_move rfl rfl) ?_
      refine WM_val rfl rfl rfl rfl (R_nilCheck rfl rfl) ?_
      refine WM_val rfl rfl rfl rfl (R_fieldAddr rfl fa291_1 rfl) ?_
      refine WM_val rfl rfl rfl rfl (R_load rfl sc39 rfl (mmY) rfl) ?_
      refine WM_val rfl rfl rfl rfl (R_move rfl rfl) ?_
      refine WM_val rfl rfl rfl rfl (R_nilCheck rfl rfl) ?_
      refine WM_val rfl rfl rfl rfl (R_fieldAddr rfl fa291_0 rfl) ?_
      refine WM_val rfl rfl rfl rfl (R_load rfl sc34 rfl (mmY) rfl) ?_
      refine WM_val rfl rfl rfl rfl (R_move rfl rfl) ?_
      refine WM_val rfl rfl rfl rfl (R_indexAddrN rfl Tryz.underlying34 Tryz.sizeOf3 rfl rfl (by omega)) ?_
      refine WM_val rfl rfl rfl rfl (R_load (v := .int .i64 ((ha : Nat) : Int)) rfl sc3 rfl (mmY) (fm_get0 encN1 hla (j := 0) (by omega))) ?_
      refine WM_val rfl rfl rfl rfl (R_move rfl rfl) ?_
      refine WM_val rfl rfl rfl rfl (R_nilCheck rfl rfl) ?_
      refine WM_val rfl rfl rfl rfl (R_fieldAddr rfl fa291_0 rfl) ?_
      refine WM_val rfl rfl rfl rfl (R_load rfl sc34 rfl (mmY) rfl) ?_
      refine WM_val rfl rfl rfl rfl (R_move rfl rfl) ?_
      refine WM_val rfl rfl rfl rfl (R_indexAddrN rfl Tryz.underlying34 Tryz.sizeOf3 rfl rfl (by omega)) ?_
      refine WM_val rfl rfl rfl rfl (R_load (v := .int .i64 ((hb : Nat) : Int)) rfl sc3 rfl (mmY) (fm_get0 encN1 hlb (j := 0) (by omega))) ?_
      refine WM_call rfl (Spec.quiet (bef_ok p bx be ne ce te n bl nl c tl y.E y.l (by rw [hs.len]; exact hne) ha hb xa xb hxa hxb (hs.sq _ _ hxa) (hs.sq _ _ hxb))) rfl rfl rfl rfl rfl rfl rfl (pqY) ?_
      refine WM_nil ?_
      refine WQ_code ?_
      refine WC_dec rfl (fun c3 => ?_) (fun c3 => ?_)
      · have hlt : rk y.E ha < rk y.E hb := c3
        have hlt2 : rkl E0 y.l z.c < rkl E0 y.l z.m := by omega
        refine WC_region ?_
        refine WL_val rfl rfl rfl (R_move rfl rfl) ?_
        refine WL_val rfl rfl rfl (R_assign rfl rfl) ?_
        refine WL_nil ?_
        refine WQ_code ?_
        refine WC_region ?_
        refine WL_val rfl rfl rfl (R_move rfl rfl) ?_
        refine WL_val rfl rfl rfl (R_add rfl rfl rfl (by omega)) ?_
        refine WL_val rfl rfl rfl (R_assign rfl rfl) ?_
        refine WL_nil ?_
        refine WQ_nextF (⟨z.c + 1, z.c⟩) (⟨by dsimp only; omega, .inr (by dsimp only; omega), by dsimp only; omega, by dsimp only; omega, by dsimp only; omega, fun c h1 h2 h3 => by dsimp only at h2 ⊢; by_cases e : c = z.c; (subst e; exact Nat.le_refl _); (have := hzc c h1 (by omega) h3; omega)⟩) (by dsimp only; omega) leZ (psZ) rfl (pqY)
      · have hge : ¬ rk y.E ha < rk y.E hb := c3
        have hge2 : ¬ rkl E0 y.l z.c < rkl E0 y.l z.m := by omega
        refine WC_skip ?_
        refine WQ_code ?_
        refine WC_region ?_
        refine WL_val rfl rfl rfl (R_move rfl rfl) ?_
        refine WL_val rfl rfl rfl (R_add rfl rfl rfl (by omega)) ?_
        refine WL_val rfl rfl rfl (R_assign rfl rfl) ?_
        refine WL_nil ?_
        refine WQ_nextF (⟨z.c + 1, z.m⟩) (⟨hzm, hzi, by dsimp only; omega, by dsimp only; omega, hzr, fun c h1 h2 h3 => by dsimp only at h2 ⊢; by_cases e : c = z.c; (subst e; omega); (exact hzc c h1 (by omega) h3)⟩) (by dsimp only; omega) leZ (psZ) rfl (pqY)
    · refine WC_exit ?_
      refine WQ_code ?_
      refine WC_seq ?_
      refine WC_seq ?_
      refine WC_region ?_
      refine WL_val rfl rfl rfl (R_move rfl rfl) ?_
      refine WL_val rfl rfl rfl (R_move rfl rfl) ?_
      refine WL_val rfl rfl rfl (R_eql rfl rfl rfl) ?_
      refine WL_nil ?_
      refine WQ_code ?_
      refine WC_dec rfl (fun c4 => ?_) (fun c4 => ?_)
      · have hmi : z.m = y.i := by omega
        refine WC_ret ?_
        refine WQ_ret rfl rfl .nil rfl (by
            exact ⟨y.E, y.l, rfl, rfl, hs, hyp, down_done hyd (fun c h1 h2 h3 => by have := hzc c (by omega) (by omega) h1; rw [hmi] at this; exact this)⟩) (pqY)
      · have hmi : ¬ z.m = y.i := by omega
        obtain ⟨ha, xa, hla, ga, hxa, pa⟩ := hs.get (i := y.i) (by omega)
        obtain ⟨hb, xb, hlb, gb, hxb, pb⟩ := hs.get (i := z.m) (by omega)
        have ra : rkl E0 y.l y.i = rk y.E ha := by rw [rkl, ← hs.rk, ga]
        have rb : rkl E0 y.l z.m = rk y.E hb := by rw [rkl, ← hs.rk, gb]
        refine WC_skip ?_
        refine WQ_code ?_
        refine WC_seq ?_
        refine WC_region ?_
        refine WL_val rfl rfl rfl (R_move rfl rfl) ?_
        refine WL_val rfl rfl rfl (R_move rfl rfl) ?_
        refine WL_val rfl rfl rfl (R_move rfl rfl) ?_
        refine WL_do rfl rfl rfl (D_call (swap_ok p bx be ne ce te n bl nl c tl y.E y.l (by rw [hs.len]; exact hne) hyl y.i z.m (by omega) (by omega) xa xb (by rw [ga]; exact hxa) (by rw [gb]; exact hxb)) rfl rfl rfl rfl (pqY)) ?_
        rintro _ _ ⟨_, ⟨rfl, rfl⟩, rfl⟩
        refine WL_nil ?_
        refine WQ_code ?_
        refine WC_region ?_
        refine WL_val rfl rfl rfl (R_move rfl rfl) ?_
        refine WL_val rfl rfl rfl (R_assign rfl rfl) ?_
        refine WL_nil ?_
        have hdn : HDown (rkl E0 (sw y.l y.i z.m)) nl z.m := down_step hyd hzm (by omega) (by omega) hzr (fun c h1 h2 h3 => hzc c (by omega) (by omega) h1) (sw_swapped (rk E0) (by omega) (by omega))
        refine WQ_nextF (⟨z.m, setp (setp y.E (gt0 y.l z.m) (y.i : Int)) (gt0 y.l y.i) (z.m : Int), sw y.l y.i z.m⟩) (⟨st_swap hs (by omega) (by omega), by dsimp only; rw [sw_len]; exact hyl, hzm, hdn, (sw_perm (by omega) (by omega)).trans hyp⟩) (by dsimp only; omega) leZ (psZ) rfl (pqY)
  · have h15 : ¬ ((z.c : Nat) : Int) ≤ 4 * ((y.i : Nat) : Int) + 4 := c1
    refine WL_skip rfl rfl rfl ?_
    refine WL_skip rfl rfl rfl ?_
    refine WL_skip rfl rfl rfl ?_
    refine WL_skip rfl rfl rfl ?_
    refine WL_skip rfl rfl rfl ?_
    refine WL_skip rfl rfl rfl ?_
    refine WL_skip rfl rfl rfl ?_
    refine WL_val rfl rfl rfl (R_pickF rfl rfl rfl) ?_
    refine WL_nil ?_
    refine WQ_code ?_
    refine WC_F rfl ?_
    refine WC_exit ?_
    refine WQ_code ?_
    refine WC_seq ?_
    refine WC_seq ?_
    refine WC_region ?_
    refine WL_val rfl rfl rfl (R_move rfl rfl) ?_
    refine WL_val rfl rfl rfl (R_move rfl rfl) ?_
    refine WL_val rfl rfl rfl (R_eql rfl rfl rfl) ?_
    refine WL_nil ?_
    refine WQ_code ?_
    refine WC_dec rfl (fun c5 => ?_) (fun c5 => ?_)
    · have hmi : z.m = y.i := by omega
      refine WC_ret ?_
      refine WQ_ret rfl rfl .nil rfl (by
          exact ⟨y.E, y.l, rfl, rfl, hs, hyp, down_done hyd (fun c h1 h2 h3 => by have := hzc c (by omega) (by omega) h1; rw [hmi] at this; exact this)⟩) (pqY)
    · have hmi : ¬ z.m = y.i := by omega
      obtain ⟨ha, xa, hla, ga, hxa, pa⟩ := hs.get (i := y.i) (by omega)
      obtain ⟨hb, xb, hlb, gb, hxb, pb⟩ := hs.get (i := z.m) (by omega)
      have ra : rkl E0 y.l y.i = rk y.E ha := by rw [rkl, ← hs.rk, ga]
      have rb : rkl E0 y.l z.m = rk y.E hb := by rw [rkl, ← hs.rk, gb]
      refine WC_skip ?_
      refine WQ_code ?_
      refine WC_seq ?_
      refine WC_region ?_
      refine WL_val rfl rfl rfl (R_move rfl rfl) ?_
      refine WL_val rfl rfl rfl (R_move rfl rfl) ?_
      refine WL_val rfl rfl rfl (R_move rfl rfl) ?_
      refine WL_do rfl rfl rfl (D_call (swap_ok p bx be ne ce te n bl nl c tl y.E y.l (by rw [hs.len]; exact hne) hyl y.i z.m (by omega) (by omega) xa xb (by rw [ga]; exact hxa) (by rw [gb]; exact hxb)) rfl rfl rfl rfl (pqY)) ?_
      rintro _ _ ⟨_, ⟨rfl, rfl⟩, rfl⟩
      refine WL_nil ?_
      refine WQ_code ?_
      refine WC_region ?_
      refine WL_val rfl rfl rfl (R_move rfl rfl) ?_
      refine WL_val rfl rfl rfl (R_assign rfl rfl) ?_
      refine WL_nil ?_
      have hdn : HDown (rkl E0 (sw y.l y.i z.m)) nl z.m := down_step hyd hzm (by omega) (by omega) hzr (fun c h1 h2 h3 => hzc c (by omega) (by omega) h1) (sw_swapped (rk E0) (by omega) (by omega))
      refine WQ_nextF (⟨z.m, setp (setp y.E (gt0 y.l z.m) (y.i : Int)) (gt0 y.l y.i) (z.m : Int), sw y.l y.i z.m⟩) (⟨st_swap hs (by omega) (by omega), by dsimp only; rw [sw_len]; exact hyl, hzm, hdn, (sw_perm (by omega) (by omega)).trans hyp⟩) (by dsimp only; omega) leZ (psZ) rfl (pqY)
theorem fix_ok (p bx be ne ce : Nat) (te : List Value) (n bl nl c : Nat) (tl : List Value) (E0 E : List El) (l : List Nat) (s : St E0 E l) (hne : E0.length = ne) (hnl : l.length = nl) (hbig : nl ≤ 2000) (i : Nat) (hi : i < nl) (hf : HFix (rkl E0 l) nl i) :
    Spec Tryz.prog 209 [.pointer (some ⟨p, 3, none⟩), .int .i64 (i : Int)] (hR p bx be ne ce te n bl nl c tl E l) (fun r H' => ∃ E' l', r = .tuple #[] ∧ H' = hR p bx be ne ce te n bl nl c tl E' l' ∧ St E0 E' l' ∧ l'.Perm l ∧ HOk (rkl E0 l') nl) := by
  refine Spec.of (E := [(0, .pointer (some ⟨p, 3, none⟩)), (1, .int .i64 (i : Int))]) Tryz.func209 rfl (by kernel_rfl) Tryz.ntmps209 rfl rfl (fun w => ?_)
  refine WC_seq ?_
  refine WC_region ?_
  refine WL_val rfl rfl rfl (R_move rfl rfl) ?_
  refine WL_val rfl rfl rfl (R_move rfl rfl) ?_
  refine WL_do rfl rfl rfl (D_call (up_ok p bx be ne ce te n bl nl c tl E0 E l s hne hnl hbig i hi hf) rfl rfl rfl rfl (pqY)) ?_
  rintro _ _ ⟨_, ⟨E1, l1, rfl, rfl, s1, p1, d1⟩, rfl⟩
  refine WL_nil ?_
  refine WQ_code ?_
  refine WC_region ?_
  refine WL_val rfl rfl rfl (R_move rfl rfl) ?_
  refine WL_val rfl rfl rfl (R_move rfl rfl) ?_
  refine WL_do rfl rfl rfl (D_call (down_ok p bx be ne ce te n bl nl c tl E0 E1 l1 s1 hne (p1.length_eq.trans hnl) hbig i hi d1) rfl rfl rfl rfl (pqY)) ?_
  rintro _ _ ⟨_, ⟨E2, l2, rfl, rfl, s2, p2, d2⟩, rfl⟩
  refine WL_nil ?_
  refine WQ_ret rfl rfl .nil rfl (by
      exact ⟨E2, l2, rfl, rfl, s2, p2.trans p1, d2⟩) (pqY)
end Go.Proofs.YtbkdebnkoidicaaGreat
end
section
set_option linter.unusedVariables false
set_option maxRecDepth 20000
set_option maxHeartbeats 2000000
namespace Go.Proofs.YtbkdebnkoidicaaGreat
theorem ivn_snoc (l : List Nat) (h : Nat) : ivn (l ++ [h]) = ivn l ++ [.int .i64 (h : Int)] := by simp
theorem list_snoc {l : List Nat} {m h : Nat} (hl : l.length = m + 1) (hm : l[m]? = some h) : l = l.take m ++ [h] := by
  have h1 : l.take (m + 1) = l := List.take_of_length_le (by omega)
  obtain ⟨h2, rfl⟩ := List.getElem?_eq_some_iff.1 hm
  rw [List.take_append_getElem, h1]
theorem Own.like {ob : Option Nat} {n c sz : Nat} {xs ys tl : List Value} (h : Own ob n c sz xs tl) (e : ys.length = xs.length) : Own ob n c sz ys tl := ⟨by rw [e]; exact h.len, by rw [e]; exact h.cap, h.le, h.big, h.nil⟩
theorem qadd_ok (p bx be ne ce : Nat) (te : List Value) (n : Nat) (ol : Option Nat) (c : Nat) (tl : List Value) (E : List El) (l : List Nat) (s : St E E l) (ho : HOk (rkl E l) l.length) (hne : E.length = ne) (own : Own ol l.length c 1 (ivn l) tl) (hbig : l.length ≤ 1024) (h : Nat) (x : El) (hx : E[h]? = some x) (hn : h ∉ l) :
    Spec Tryz.prog 188 [.pointer (some ⟨p, 3, none⟩), .int .i64 (h : Int)] [⟨some p, cl (hC bx (some be) ne ce n ol l.length c) 293⟩, ⟨some bx, cl [ptrH p] 242⟩, ⟨some be, cl (E.flatMap encEl ++ te) 300⟩, ⟨ol, cl (ivn l ++ tl) 3⟩]
    (fun r H' => ∃ E' l' bl c' tl', r = .tuple #[] ∧ H' = hR p bx be ne ce te n bl (l.length + 1) c' tl' E' l' ∧ Own (some bl) (l.length + 1) c' 1 (ivn l') tl' ∧ St E E' l' ∧ l'.Perm (l ++ [h]) ∧ HOk (rkl E l') (l.length + 1)) := by
  have hfx : HFix (rkl E (l ++ [h])) (l.length + 1) l.length := add_fix ho (fun j hj => by rw [rkl, rkl, gt0, gt0, List.getElem?_append_left hj])
  refine Spec.of (E := [(0, .pointer (some ⟨p, 3, none⟩)), (1, .int .i64 (h : Int))]) Tryz.func188 rfl (by kernel_rfl) Tryz.ntmps188 rfl rfl (fun w => ?_)
  refine WC_seq ?_
  refine WC_region ?_
  refine WL_val rfl rfl rfl (R_move rfl rfl) ?_
  refine WL_val rfl rfl rfl (R_move rfl rfl) ?_
  refine WL_val rfl rfl rfl (R_nilCheck rfl rfl) ?_
  refine WL_val rfl rfl rfl (R_fieldAddr rfl fa291_0 rfl) ?_
  refine WL_val rfl rfl rfl (R_load rfl sc34 rfl (mmY) rfl) ?_
  refine WL_val rfl rfl rfl (R_move rfl rfl) ?_
  refine WL_do rfl rfl rfl (D_buildSlice rfl si34 rfl rfl rfl) ?_
  rintro _ _ ⟨b1, rfl, rfl⟩
  refine WL_do rfl rfl rfl (D_append rfl si34 rfl (own) (plY) rfl (mmY) ((atZ : At _ 0 [_])) (rfl) (rfl) (by omega) (by omega)) ?_
  rintro _ _ ⟨ob2, cap2, tl2, rfl, own2, rfl⟩
  obtain ⟨bl, rfl⟩ := own2.some_of (by omega)
  rw [← ivn_snoc] at own2 ⊢
  refine WL_val rfl rfl rfl (R_nilCheck rfl rfl) ?_
  refine WL_val rfl rfl rfl (R_fieldAddr rfl fa291_0 rfl) ?_
  refine WL_do0 rfl rfl (D_store (vs := [_]) rfl Tryz.sizeOf34 rfl rfl rfl rfl rfl (plY) (by exact Nat.le_of_ble_eq_true rfl)) ?_
  rintro _ _ rfl
  refine WL_nil ?_
  refine WQ_code ?_
  refine WC_seq ?_
  refine WC_drawR [⟨some be, _⟩] [(0, true), (1, true), (2, true), (3, true), (4, true), (5, true), (6, true), (7, true), (8, true), (9, true), (10, true), (11, false)] followsMixed rfl rfl (by kernel_rfl) (pqY) ?_
  refine WM_val rfl rfl rfl rfl (R_move rfl rfl) ?_
  refine WM_val rfl rfl rfl rfl (R_nilCheck rfl rfl) ?_
  refine WM_val rfl rfl rfl rfl (R_fieldAddr rfl fa291_2 rfl) ?_
  refine WM_val rfl rfl rfl rfl (R_load rfl sc289 rfl (mmY) rfl) ?_
  refine WM_val rfl rfl rfl rfl (R_move rfl rfl) ?_
  refine WM_val rfl rfl rfl rfl (R_move rfl rfl) ?_
  refine WM_val rfl rfl rfl rfl (R_nilCheck rfl rfl) ?_
  refine WM_val rfl rfl rfl rfl (R_fieldAddr rfl fa291_0 rfl) ?_
  refine WM_val rfl rfl rfl rfl (R_load rfl sc34 rfl (mmY) rfl) ?_
  refine WM_val rfl rfl rfl rfl (R_len rfl Tryz.underlying34 rfl) ?_
  refine WM_val rfl rfl rfl rfl (R_subR (r := ((l.length : Nat) : Int)) rfl rfl rfl (by rw [IntWalk.i64_in _ (by omega)]; omega)) ?_
  refine WM_do rfl rfl rfl rfl (D_call (put_ok p bx be ne ce te n bl (l.length + 1) cap2 tl2 E (l ++ [h]) hne h ((l.length : Nat) : Int) x hx) rfl rfl rfl rfl (pqY)) ?_
  rintro _ _ ⟨_, ⟨rfl, rfl⟩, rfl⟩
  refine ⟨⟨_, pqY⟩, ?_⟩
  refine WM_nil ?_
  refine WQ_code ?_
  refine WC_region ?_
  refine WL_val rfl rfl rfl (R_move rfl rfl) ?_
  refine WL_val rfl rfl rfl (R_move rfl rfl) ?_
  refine WL_val rfl rfl rfl (R_nilCheck rfl rfl) ?_
  refine WL_val rfl rfl rfl (R_fieldAddr rfl fa291_0 rfl) ?_
  refine WL_val rfl rfl rfl (R_load rfl sc34 rfl (mmY) rfl) ?_
  refine WL_val rfl rfl rfl (R_len rfl Tryz.underlying34 rfl) ?_
  refine WL_val rfl rfl rfl (R_subR (r := ((l.length : Nat) : Int)) rfl rfl rfl (by rw [IntWalk.i64_in _ (by omega)]; omega)) ?_
  refine WL_do rfl rfl rfl (D_call (up_ok p bx be ne ce te n bl (l.length + 1) cap2 tl2 E (setp E h ((l.length : Nat) : Int)) (l ++ [h]) (st_add s hx hn) hne (by rw [List.length_append, List.length_singleton]) (by omega) l.length (by omega) hfx) rfl rfl rfl rfl (pqY)) ?_
  rintro _ _ ⟨_, ⟨E', l', rfl, rfl, s', p', d'⟩, rfl⟩
  refine WL_nil ?_
  refine WQ_ret rfl rfl .nil rfl (by
      exact ⟨E', l', bl, cap2, tl2, rfl, rfl, own2.like (by rw [fm_length encN1, fm_length encN1, p'.length_eq]), s', p', add_ok d'⟩) (pqY)
theorem qcut_ok (p bx be ne ce : Nat) (te : List Value) (n bl nl c : Nat) (tl : List Value) (E : List El) (l : List Nat) (s : St E E l) (ho : HOk (rkl E l) l.length) (hne : E.length = ne) (m : Nat) (hnl : l.length = m + 1) (hnl2 : nl = m + 1) (hbig : m ≤ 1024) (hcap : nl ≤ c) (i h : Nat) (hi : l[i]? = some h) :
    Spec Tryz.prog 185 [.pointer (some ⟨p, 3, none⟩), .int .i64 (i : Int)] (hR p bx be ne ce te n bl nl c tl E l) (fun r H' => ∃ E2 E3 l3 l4, r = .tuple #[] ∧ H' = hR p bx be ne ce te n bl m c (.int .i64 (h : Int) :: tl) E3 l4 ∧ St E E2 (l3 ++ [h]) ∧ (l3 ++ [h]).Perm l ∧ St E2 E3 l4 ∧ l4.Perm l3 ∧ HOk (rkl E3 l4) m) := by
  subst hnl2
  have hil : i < l.length := (List.getElem?_eq_some_iff.1 hi).1
  have hml : m < l.length := by omega
  obtain ⟨ha, xa, hla, ga, hxa, pa⟩ := s.get (i := i) hil
  obtain ⟨hb, xb, hlb, gb, hxb, pb⟩ := s.get (i := m) hml
  obtain rfl : h = ha := by rw [hi] at hla; exact Option.some.inj hla
  have s2 := st_swap s hil hml
  have hsm : (sw l i m)[m]? = some h := by rw [sw_get hil hml, if_pos rfl, ga]
  obtain ⟨l3, hl3⟩ : ∃ l3, l3 = (sw l i m).take m := ⟨_, rfl⟩
  have hl2 : sw l i m = l3 ++ [h] := by rw [hl3]; exact list_snoc (by rw [sw_len]; exact hnl) hsm
  have h3l : l3.length = m := by rw [hl3, List.length_take, sw_len]; omega
  have hp2 : (l3 ++ [h]).Perm l := by rw [← hl2]; exact sw_perm hil hml
  have s22 := s2
  rw [hl2] at s22
  have s3 := Hp.cut0 s22
  have hcg : ∀ j, j < m → rkl (setp (setp E (gt0 l m) (i : Int)) (gt0 l i) (m : Int)) l3 j = rkl E (sw l i m) j := fun j hj => by
    rw [rkl, rkl, s2.rk, hl2, gt0, gt0, List.getElem?_append_left (by omega)]
  have hswp := sw_swapped (rk E) hil hml
  refine Spec.of (E := [(0, .pointer (some ⟨p, 3, none⟩)), (1, .int .i64 (i : Int))]) Tryz.func185 rfl (by kernel_rfl) Tryz.ntmps185 rfl rfl (fun w => ?_)
  refine WC_seq ?_
  refine WC_region ?_
  refine WL_val rfl rfl rfl (R_move rfl rfl) ?_
  refine WL_val rfl rfl rfl (R_nilCheck rfl rfl) ?_
  refine WL_val rfl rfl rfl (R_fieldAddr rfl fa291_0 rfl) ?_
  refine WL_val rfl rfl rfl (R_load rfl sc34 rfl (mmY) rfl) ?_
  refine WL_val rfl rfl rfl (R_len rfl Tryz.underlying34 rfl) ?_
  refine WL_val rfl rfl rfl (R_subR (r := ((m : Nat) : Int)) rfl rfl rfl (by rw [IntWalk.i64_in _ (by omega)]; omega)) ?_
  refine WL_val rfl rfl rfl (R_assign rfl rfl) ?_
  refine WL_nil ?_
  refine WQ_code ?_
  refine WC_seq ?_
  refine WC_region ?_
  refine WL_val rfl rfl rfl (R_move rfl rfl) ?_
  refine WL_val rfl rfl rfl (R_move rfl rfl) ?_
  refine WL_val rfl rfl rfl (R_move rfl rfl) ?_
  refine WL_do rfl rfl rfl (D_call (swap_ok p bx be ne ce te n bl (m + 1) c tl E l hne hnl i m hil hml xa xb (by rw [ga]; exact hxa) (by rw [gb]; exact hxb)) rfl rfl rfl rfl (pqY)) ?_
  rintro _ _ ⟨_, ⟨rfl, rfl⟩, rfl⟩
  refine WL_nil ?_
  refine WQ_code ?_
  refine WC_seq ?_
  refine WC_region ?_
  refine WL_val rfl rfl rfl (R_move rfl rfl) ?_
  refine WL_val rfl rfl rfl (R_move rfl rfl) ?_
  refine WL_val rfl rfl rfl (R_nilCheck rfl rfl) ?_
  refine WL_val rfl rfl rfl (R_fieldAddr rfl fa291_0 rfl) ?_
  refine WL_val rfl rfl rfl (R_load rfl sc34 rfl (mmY) rfl) ?_
  refine WL_val rfl rfl rfl (R_move rfl rfl) ?_
  refine WL_val rfl rfl rfl (R_sliceTo (m := m) rfl Tryz.underlying34 Tryz.sizeOf3 rfl rfl (by omega)) ?_
  refine WL_val rfl rfl rfl (R_nilCheck rfl rfl) ?_
  refine WL_val rfl rfl rfl (R_fieldAddr rfl fa291_0 rfl) ?_
  refine WL_do0 rfl rfl (D_store (vs := [_]) rfl Tryz.sizeOf34 rfl rfl rfl rfl rfl (plY) (by exact Nat.le_of_ble_eq_true rfl)) ?_
  rintro _ _ rfl
  rw [hl2, show ivn (l3 ++ [h]) ++ tl = ivn l3 ++ (Value.int .i64 (h : Int) :: tl) from by rw [ivn_snoc, List.append_assoc]; rfl]
  refine WL_nil ?_
  refine WQ_code ?_
  refine WC_seq ?_
  refine WC_region ?_
  refine WL_val rfl rfl rfl (R_move rfl rfl) ?_
  refine WL_val rfl rfl rfl (R_move rfl rfl) ?_
  refine WL_val rfl rfl rfl (R_lss rfl rfl rfl) ?_
  refine WL_nil ?_
  refine WQ_code ?_
  refine WC_dec rfl (fun c1 => ?_) (fun c1 => ?_)
  · have him : i < m := by omega
    refine WC_region ?_
    refine WL_val rfl rfl rfl (R_move rfl rfl) ?_
    refine WL_val rfl rfl rfl (R_move rfl rfl) ?_
    refine WL_do rfl rfl rfl (D_call (fix_ok p bx be ne ce te n bl m c (.int .i64 (h : Int) :: tl) _ _ l3 s3 (by rw [setp_len, setp_len]; exact hne) h3l (by omega) i (by omega) ((cut_fix (hnl ▸ ho) (by omega) hswp).cong (by omega) hcg)) rfl rfl rfl rfl (pqY)) ?_
    rintro _ _ ⟨_, ⟨E3, l4, rfl, rfl, s4, p4, o4⟩, rfl⟩
    refine WL_nil ?_
    refine WQ_ret rfl rfl .nil rfl (by
        exact ⟨_, E3, l3, l4, rfl, rfl, s22, hp2, s4, p4, o4.cong (fun j _ => by rw [rkl, rkl, s4.rk])⟩) (pqY)
  · obtain rfl : i = m := by omega
    refine WC_skip ?_
    refine WQ_ret rfl rfl .nil rfl (by
        exact ⟨_, _, l3, l3, rfl, rfl, s22, hp2, s3, .refl _, HOk.cong (F := rkl E (sw l i i)) (fun j h1 h2 => by rw [hnl] at ho; have := ho j h1 (by omega); rw [rkl, rkl, hswp.o j (by omega) (by omega), hswp.o _ (by omega) (by omega)]; exact this) hcg⟩) (pqY)
end Go.Proofs.YtbkdebnkoidicaaGreat
end
section
set_option linter.unusedVariables false
set_option maxRecDepth 20000
set_option maxHeartbeats 4000000
namespace Go.Proofs.YtbkdebnkoidicaaGreat
abbrev hH (p bx : Nat) (oe : Option Nat) (ne ce : Nat) (te : List Value) (n : Nat) (ol : Option Nat) (nl c : Nat) (tl : List Value) (E : List El) (l : List Nat) : Heap := [⟨some p, cl (hC bx oe ne ce n ol nl c) 293⟩, ⟨some bx, cl [ptrH p] 242⟩, ⟨oe, cl (E.flatMap encEl ++ te) 300⟩, ⟨ol, cl (ivn l ++ tl) 3⟩]
structure HM where
  p : Nat
  bx : Nat
  oe : Option Nat
  ne : Nat
  ce : Nat
  te : List Value
  n : Nat
  ol : Option Nat
  nl : Nat
  c : Nat
  tl : List Value
  E : List El
  l : List Nat
abbrev gH (g : HM) : Heap := hH g.p g.bx g.oe g.ne g.ce g.te g.n g.ol g.nl g.c g.tl g.E g.l
structure HIs (W : List WE) (g : HM) : Prop where
  hp : Hp W g.E g.l g.n
  ne : g.E.length = g.ne
  nl : g.l.length = g.nl
  oe : Own g.oe g.ne g.ce 4 (g.E.flatMap encEl) g.te
  ol : Own g.ol g.nl g.c 1 (ivn g.l) g.tl
theorem hzero_ok (p bx : Nat) (oe : Option Nat) (ne ce n : Nat) (ol : Option Nat) (nl c : Nat) : Spec Tryz.prog 183 [ptrH p] [⟨some p, cl (hC bx oe ne ce n ol nl c) 293⟩] (fun r H' => r = .bool false ∧ H' = [⟨some p, cl (hC bx oe ne ce n ol nl c) 293⟩]) := by
  refine Spec.of (E := [(0, ptrH p)]) Tryz.func183 rfl (by kernel_rfl) Tryz.ntmps183 rfl rfl (fun w => ?_)
  refine WC_seq ?_
  refine WC_region ?_
  refine WL_val rfl rfl rfl (R_assign rfl rfl) ?_
  refine WL_nil ?_
  refine WQ_code ?_
  refine WC_seq ?_
  refine WC_region ?_
  refine WL_val rfl rfl rfl (R_move rfl rfl) ?_
  refine WL_val rfl rfl rfl (R_ptrEqNil rfl Tryz.underlying242 rfl) ?_
  refine WL_val rfl rfl rfl (R_move rfl rfl) ?_
  refine WL_val rfl rfl rfl (R_move rfl rfl) ?_
  refine WL_val rfl rfl rfl (R_nilCheck rfl rfl) ?_
  refine WL_val rfl rfl rfl (R_fieldAddr rfl fa293_0 rfl) ?_
  refine WL_val rfl rfl rfl (R_load rfl sc4 rfl (mmY) rfl) ?_
  refine WL_set (s := 9) (v := .bool true) rfl (by rfl) ?_
  refine WL_val rfl rfl rfl (R_not rfl rfl) ?_
  refine WL_val rfl rfl rfl (R_pickF rfl rfl rfl) ?_
  refine WL_val rfl rfl rfl (R_assign rfl rfl) ?_
  refine WL_nil ?_
  refine WQ_code ?_
  refine WC_ret ?_
  refine WQ_ret rfl rfl (.cons (.tmp rfl) .nil) rfl (by
      exact ⟨rfl, rfl⟩) (pqY)
theorem hbind_ok (p : Nat) (a b cc : Value) (d e f : Value) : Spec Tryz.prog 181 [ptrH p] [⟨some p, cl [a, b, cc, d, e, f] 293⟩] (fun r H' => ∃ bx, r = .tuple #[] ∧ H' = [⟨some p, cl [a, b, cc, d, .func (.func 206) #[] #[ptrH bx], .func (.func 207) #[] #[ptrH bx]] 293⟩, ⟨some bx, cl [ptrH p] 242⟩]) := by
  refine Spec.of (E := [(0, ptrH p)]) Tryz.func181 rfl (by kernel_rfl) Tryz.ntmps181 rfl rfl (fun w => ?_)
  refine WC_seq ?_
  refine WC_region ?_
  refine WL_do rfl rfl rfl (D_box (cs := [_]) rfl rfl rfl) ?_
  rintro _ _ ⟨b1, rfl, rfl⟩
  refine WL_nil ?_
  refine WQ_code ?_
  refine WC_seq ?_
  refine WC_region ?_
  refine WL_val rfl rfl rfl (R_load rfl sc242 rfl (mmY) rfl) ?_
  refine WL_val rfl rfl rfl (R_makeFunc rfl rfl rfl) ?_
  refine WL_val rfl rfl rfl (R_nilCheck rfl rfl) ?_
  refine WL_val rfl rfl rfl (R_fieldAddr rfl fa293_3 rfl) ?_
  refine WL_val rfl rfl rfl (R_fieldAddr rfl fa291_1 rfl) ?_
  refine WL_do0 rfl rfl (D_store (vs := [_]) rfl Tryz.sizeOf39 rfl rfl rfl rfl rfl (plY) (by exact Nat.le_of_ble_eq_true rfl)) ?_
  rintro _ _ rfl
  refine WL_nil ?_
  refine WQ_code ?_
  refine WC_region ?_
  refine WL_val rfl rfl rfl (R_load rfl sc242 rfl (mmY) rfl) ?_
  refine WL_val rfl rfl rfl (R_makeFunc rfl rfl rfl) ?_
  refine WL_val rfl rfl rfl (R_nilCheck rfl rfl) ?_
  refine WL_val rfl rfl rfl (R_fieldAddr rfl fa293_3 rfl) ?_
  refine WL_val rfl rfl rfl (R_fieldAddr rfl fa291_2 rfl) ?_
  refine WL_do0 rfl rfl (D_store (vs := [_]) rfl Tryz.sizeOf289 rfl rfl rfl rfl rfl (plY) (by exact Nat.le_of_ble_eq_true rfl)) ?_
  rintro _ _ rfl
  refine WL_nil ?_
  refine WQ_ret rfl rfl .nil rfl (by
      exact ⟨b1, rfl, rfl⟩) (pqY)
theorem hnew_x : Spec Tryz.prog 146 [] [] (fun r H' => ∃ p bx, r = ptrH p ∧ H' = hH p bx none 0 0 [] 0 none 0 0 [] [] []) := by
  refine Spec.of (E := []) Tryz.func146 rfl (by kernel_rfl) Tryz.ntmps146 rfl rfl (fun w => ?_)
  refine WC_seq ?_
  refine WC_region ?_
  refine WL_val rfl rfl rfl (R_assign rfl rfl) ?_
  refine WL_nil ?_
  refine WQ_code ?_
  refine WC_seq ?_
  refine WC_region ?_
  refine WL_val rfl rfl rfl (R_build rfl zv293 pl293 rfl rfl) ?_
  refine WL_do rfl rfl rfl (D_box (cs := [_, _, _, _, _, _]) rfl rfl rfl) ?_
  rintro _ _ ⟨b1, rfl, rfl⟩
  refine WL_val rfl rfl rfl (R_assign rfl rfl) ?_
  refine WL_nil ?_
  refine WQ_code ?_
  refine WC_seq ?_
  refine WC_region ?_
  refine WL_val rfl rfl rfl (R_move rfl rfl) ?_
  refine WL_do rfl rfl rfl (D_call (hbind_ok _ _ _ _ _ _ _) rfl rfl rfl rfl (pqY)) ?_
  rintro _ _ ⟨_, ⟨bx, rfl, rfl⟩, rfl⟩
  refine WL_nil ?_
  refine WQ_code ?_
  refine WC_seq ?_
  refine WC_region ?_
  refine WL_val rfl rfl rfl (R_move rfl rfl) ?_
  refine WL_val rfl rfl rfl (R_assign rfl rfl) ?_
  refine WL_nil ?_
  refine WQ_code ?_
  refine WC_ret ?_
  refine WQ_none 300 (WQ_none 3 ?_)
  refine WQ_ret rfl rfl (.cons (.tmp rfl) .nil) rfl (by
      exact ⟨_, bx, rfl, rfl⟩) (pqY)
theorem htop_none (p bx : Nat) (oe : Option Nat) (ne ce : Nat) (te : List Value) (n : Nat) (ol : Option Nat) (nl c : Nat) (tl : List Value) (E : List El) (l : List Nat) (h0 : nl = 0) : Spec Tryz.prog 153 [ptrH p] (hH p bx oe ne ce te n ol nl c tl E l) (fun r H' => r = .tuple #[.int .i64 0, .int .i64 9] ∧ H' = hH p bx oe ne ce te n ol nl c tl E l) := by
  refine Spec.of (E := [(0, ptrH p)]) Tryz.func153 rfl (by kernel_rfl) Tryz.ntmps153 rfl rfl (fun w => ?_)
  refine WC_seq ?_
  refine WC_region ?_
  refine WL_val rfl rfl rfl (R_assign rfl rfl) ?_
  refine WL_val rfl rfl rfl (R_assign rfl rfl) ?_
  refine WL_nil ?_
  refine WQ_code ?_
  refine WC_seq ?_
  refine WC_block ?_
  refine WC_seq ?_
  refine WC_region ?_
  refine WL_val rfl rfl rfl (R_move rfl rfl) ?_
  refine WL_do rfl rfl rfl (D_call (hzero_ok p bx _ _ _ _ _ _ _) rfl rfl rfl rfl (pqY)) ?_
  rintro _ _ ⟨_, ⟨rfl, rfl⟩, rfl⟩
  refine WL_val rfl rfl rfl (R_assign rfl rfl) ?_
  refine WL_nil ?_
  refine WQ_code ?_
  refine WC_F rfl ?_
  refine WC_seq ?_
  refine WC_region ?_
  refine WL_val rfl rfl rfl (R_move rfl rfl) ?_
  refine WL_val rfl rfl rfl (R_nilCheck rfl rfl) ?_
  refine WL_val rfl rfl rfl (R_fieldAddr rfl fa293_3 rfl) ?_
  refine WL_val rfl rfl rfl (R_fieldAddr rfl fa291_0 rfl) ?_
  refine WL_val rfl rfl rfl (R_load rfl sc34 rfl (mmY) rfl) ?_
  refine WL_val rfl rfl rfl (R_len rfl Tryz.underlying34 rfl) ?_
  refine WL_val rfl rfl rfl (R_eql rfl rfl rfl) ?_
  refine WL_val rfl rfl rfl (R_assign rfl rfl) ?_
  refine WL_nil ?_
  refine WQ_code ?_
  refine WC_dT rfl (by omega) ?_
  refine WC_seq ?_
  refine WC_region ?_
  refine WL_val rfl rfl rfl (R_assign rfl rfl) ?_
  refine WL_val rfl rfl rfl (R_assign rfl rfl) ?_
  refine WL_nil ?_
  refine WQ_code ?_
  refine WC_ret ?_
  refine WQ_ret rfl rfl (.cons (.tmp rfl) (.cons (.tmp rfl) .nil)) rfl (by
      exact ⟨rfl, rfl⟩) (pqY)
theorem htop_x (p bx : Nat) (oe : Option Nat) (ne ce : Nat) (te : List Value) (n : Nat) (ol : Option Nat) (nl c : Nat) (tl : List Value) (E : List El) (l : List Nat) (W : List WE) (hp : Hp W E l n) (hne : E.length = ne) (hnl : l.length = nl) (hoe : Own oe ne ce 4 (E.flatMap encEl) te) (hol : Own ol nl c 1 (ivn l) tl) (h : Nat) (hh : l[0]? = some h) : Spec Tryz.prog 153 [ptrH p] (hH p bx oe ne ce te n ol nl c tl E l) (fun r H' => r = .tuple #[.int .i64 (h : Int), .int .i64 0] ∧ H' = hH p bx oe ne ce te n ol nl c tl E l) := by
  have hpos : 0 < nl := by rw [← hnl]; exact (List.getElem?_eq_some_iff.1 hh).1
  obtain ⟨bl, rfl⟩ := hol.some_of hpos
  refine Spec.of (E := [(0, ptrH p)]) Tryz.func153 rfl (by kernel_rfl) Tryz.ntmps153 rfl rfl (fun w => ?_)
  refine WC_seq ?_
  refine WC_region ?_
  refine WL_val rfl rfl rfl (R_assign rfl rfl) ?_
  refine WL_val rfl rfl rfl (R_assign rfl rfl) ?_
  refine WL_nil ?_
  refine WQ_code ?_
  refine WC_seq ?_
  refine WC_block ?_
  refine WC_seq ?_
  refine WC_region ?_
  refine WL_val rfl rfl rfl (R_move rfl rfl) ?_
  refine WL_do rfl rfl rfl (D_call (hzero_ok p bx _ _ _ _ _ _ _) rfl rfl rfl rfl (pqY)) ?_
  rintro _ _ ⟨_, ⟨rfl, rfl⟩, rfl⟩
  refine WL_val rfl rfl rfl (R_assign rfl rfl) ?_
  refine WL_nil ?_
  refine WQ_code ?_
  refine WC_F rfl ?_
  refine WC_seq ?_
  refine WC_region ?_
  refine WL_val rfl rfl rfl (R_move rfl rfl) ?_
  refine WL_val rfl rfl rfl (R_nilCheck rfl rfl) ?_
  refine WL_val rfl rfl rfl (R_fieldAddr rfl fa293_3 rfl) ?_
  refine WL_val rfl rfl rfl (R_fieldAddr rfl fa291_0 rfl) ?_
  refine WL_val rfl rfl rfl (R_load rfl sc34 rfl (mmY) rfl) ?_
  refine WL_val rfl rfl rfl (R_len rfl Tryz.underlying34 rfl) ?_
  refine WL_val rfl rfl rfl (R_eql rfl rfl rfl) ?_
  refine WL_val rfl rfl rfl (R_assign rfl rfl) ?_
  refine WL_nil ?_
  refine WQ_code ?_
  refine WC_dF rfl (by omega) ?_
  refine WC_skip ?_
  refine WQ_code ?_
  refine WC_seq ?_
  refine WC_region ?_
  refine WL_val rfl rfl rfl (R_move rfl rfl) ?_
  refine WL_val rfl rfl rfl (R_nilCheck rfl rfl) ?_
  refine WL_val rfl rfl rfl (R_fieldAddr rfl fa293_3 rfl) ?_
  refine WL_val rfl rfl rfl (R_fieldAddr rfl fa291_0 rfl) ?_
  refine WL_val rfl rfl rfl (R_load rfl sc34 rfl (mmY) rfl) ?_
  refine WL_val rfl rfl rfl (R_indexAddrN rfl Tryz.underlying34 Tryz.sizeOf3 rfl rfl (by omega)) ?_
  refine WL_val rfl rfl rfl (R_load (v := .int .i64 ((h : Nat) : Int)) rfl sc3 rfl (mmY) (fm_get0 encN1 hh (j := 0) (by omega))) ?_
  refine WL_val rfl rfl rfl (R_assign rfl rfl) ?_
  refine WL_val rfl rfl rfl (R_assign rfl rfl) ?_
  refine WL_nil ?_
  refine WQ_code ?_
  refine WC_ret ?_
  refine WQ_ret rfl rfl (.cons (.tmp rfl) (.cons (.tmp rfl) .nil)) rfl (by
      exact ⟨rfl, rfl⟩) (pqY)
theorem hhas_x (p bx : Nat) (oe : Option Nat) (ne ce : Nat) (te : List Value) (n : Nat) (ol : Option Nat) (nl c : Nat) (tl : List Value) (E : List El) (l : List Nat) (W : List WE) (hp : Hp W E l n) (hne : E.length = ne) (hnl : l.length = nl) (hoe : Own oe ne ce 4 (E.flatMap encEl) te) (hol : Own ol nl c 1 (ivn l) tl) (i : Int) (d : Bool) (hd : d = true ↔ ∃ h : Nat, i = (h : Int) ∧ h ∈ l) : Spec Tryz.prog 184 [ptrH p, .int .i64 i] (hH p bx oe ne ce te n ol nl c tl E l) (fun r H' => r = .bool d ∧ H' = hH p bx oe ne ce te n ol nl c tl E l) := by
  have hout : ∀ h : Nat, i = (h : Int) → ne ≤ h → d = false := fun h e1 e2 => by
    cases d with
    | false => rfl
    | true =>
      obtain ⟨h2, e3, e4⟩ := hd.1 rfl
      exact absurd e4 (hp.below2 (by omega))
  have hneg : i < 0 → d = false := fun h0 => by
    cases d with
    | false => rfl
    | true =>
      obtain ⟨h2, e3, e4⟩ := hd.1 rfl
      omega
  refine Spec.of (E := [(0, ptrH p), (1, .int .i64 i)]) Tryz.func184 rfl (by kernel_rfl) Tryz.ntmps184 rfl rfl (fun w => ?_)
  refine WC_seq ?_
  refine WC_region ?_
  refine WL_val rfl rfl rfl (R_assign rfl rfl) ?_
  refine WL_nil ?_
  refine WQ_code ?_
  refine WC_seq ?_
  refine WC_region ?_
  refine WL_val rfl rfl rfl (R_move rfl rfl) ?_
  refine WL_val rfl rfl rfl (R_geq rfl rfl rfl) ?_
  refine WL_val rfl rfl rfl (R_move rfl rfl) ?_
  refine WL_splitD (s := 7) rfl (fun c1 => ?_) (fun c1 => ?_)
  · have h7 : i ≥ 0 := c1
    obtain ⟨h, rfl⟩ := Int.eq_ofNat_of_zero_le h7
    refine WL_val rfl rfl rfl (R_move rfl rfl) ?_
    refine WL_val rfl rfl rfl (R_move rfl rfl) ?_
    refine WL_val rfl rfl rfl (R_nilCheck rfl rfl) ?_
    refine WL_val rfl rfl rfl (R_fieldAddr rfl fa293_1 rfl) ?_
    refine WL_val rfl rfl rfl (R_load rfl sc288 rfl (mmY) rfl) ?_
    refine WL_val rfl rfl rfl (R_len rfl Tryz.underlying288 rfl) ?_
    refine WL_val rfl rfl rfl (R_lss rfl rfl rfl) ?_
    refine WL_val rfl rfl rfl (R_pickT rfl rfl rfl) ?_
    refine WL_val rfl rfl rfl (R_move rfl rfl) ?_
    refine WL_splitD (s := 16) rfl (fun c2 => ?_) (fun c2 => ?_)
    · have h16 : ((h : Nat) : Int) < (ne : Nat) := c2
      obtain ⟨x, hx⟩ := exE (T := E) (i := h) (by omega)
      obtain ⟨be, rfl⟩ := hoe.some_of (by omega)
      refine WL_val rfl rfl rfl (R_move rfl rfl) ?_
      refine WL_val rfl rfl rfl (R_nilCheck rfl rfl) ?_
      refine WL_val rfl rfl rfl (R_fieldAddr rfl fa293_1 rfl) ?_
      refine WL_val rfl rfl rfl (R_load rfl sc288 rfl (mmY) rfl) ?_
      refine WL_val rfl rfl rfl (R_move rfl rfl) ?_
      refine WL_val rfl rfl rfl (R_indexAddrN rfl Tryz.underlying288 Tryz.sizeOf300 rfl rfl (by omega)) ?_
      refine WL_val rfl rfl rfl (R_fieldAddr rfl fa300_3 rfl) ?_
      refine WL_val rfl rfl rfl (R_load (v := .int .i64 x.pos) rfl sc3 rfl (mmY) (fm_get0 encEl4 hx (j := 3) (by omega))) ?_
      refine WL_val rfl rfl rfl (R_geq rfl rfl rfl) ?_
      refine WL_val rfl rfl rfl (R_pickT rfl rfl rfl) ?_
      refine WL_val rfl rfl rfl (R_assign rfl rfl) ?_
      refine WL_nil ?_
      refine WQ_code ?_
      refine WC_ret ?_
      refine WQ_ret rfl rfl (.cons (.tmp rfl) .nil) rfl (by
          exact ⟨congrArg Value.bool (by rw [Bool.eq_iff_iff, decide_eq_true_iff, hd]; exact (hp.has hx).trans ⟨fun e => ⟨h, rfl, e⟩, fun ⟨h2, e1, e2⟩ => by obtain rfl : h = h2 := (by omega); exact e2⟩), rfl⟩) (pqY)
    · have h16 : ¬ ((h : Nat) : Int) < (ne : Nat) := c2
      refine WL_skip rfl rfl rfl ?_
      refine WL_skip rfl rfl rfl ?_
      refine WL_skip rfl rfl rfl ?_
      refine WL_skip rfl rfl rfl ?_
      refine WL_skip rfl rfl rfl ?_
      refine WL_skip rfl rfl rfl ?_
      refine WL_skip rfl rfl rfl ?_
      refine WL_skip rfl rfl rfl ?_
      refine WL_skip rfl rfl rfl ?_
      refine WL_val rfl rfl rfl (R_pickF rfl rfl rfl) ?_
      refine WL_val rfl rfl rfl (R_assign rfl rfl) ?_
      refine WL_nil ?_
      refine WQ_code ?_
      refine WC_ret ?_
      refine WQ_ret rfl rfl (.cons (.tmp rfl) .nil) rfl (by
          exact ⟨by rw [hout h rfl (by omega)]; rfl, rfl⟩) (pqY)
  · have h7 : ¬ i ≥ 0 := c1
    refine WL_skip rfl rfl rfl ?_
    refine WL_skip rfl rfl rfl ?_
    refine WL_skip rfl rfl rfl ?_
    refine WL_skip rfl rfl rfl ?_
    refine WL_skip rfl rfl rfl ?_
    refine WL_skip rfl rfl rfl ?_
    refine WL_skip rfl rfl rfl ?_
    refine WL_val rfl rfl rfl (R_pickF rfl rfl rfl) ?_
    refine WL_val rfl rfl rfl (R_move rfl rfl) ?_
    refine WL_skip rfl rfl rfl ?_
    refine WL_skip rfl rfl rfl ?_
    refine WL_skip rfl rfl rfl ?_
    refine WL_skip rfl rfl rfl ?_
    refine WL_skip rfl rfl rfl ?_
    refine WL_skip rfl rfl rfl ?_
    refine WL_skip rfl rfl rfl ?_
    refine WL_skip rfl rfl rfl ?_
    refine WL_skip rfl rfl rfl ?_
    refine WL_val rfl rfl rfl (R_pickF rfl rfl rfl) ?_
    refine WL_val rfl rfl rfl (R_assign rfl rfl) ?_
    refine WL_nil ?_
    refine WQ_code ?_
    refine WC_ret ?_
    refine WQ_ret rfl rfl (.cons (.tmp rfl) .nil) rfl (by
        exact ⟨by rw [hneg (by omega)]; rfl, rfl⟩) (pqY)
theorem hget_none (p bx : Nat) (oe : Option Nat) (ne ce : Nat) (te : List Value) (n : Nat) (ol : Option Nat) (nl c : Nat) (tl : List Value) (E : List El) (l : List Nat) (W : List WE) (hp : Hp W E l n) (hne : E.length = ne) (hnl : l.length = nl) (hoe : Own oe ne ce 4 (E.flatMap encEl) te) (hol : Own ol nl c 1 (ivn l) tl) (i : Int) (hd : ∀ h : Nat, i = (h : Int) → h ∉ l) : Spec Tryz.prog 154 [ptrH p, .int .i64 i] (hH p bx oe ne ce te n ol nl c tl E l) (fun r H' => r = .tuple #[.int .u64 0, .int .i64 0, .int .i64 9] ∧ H' = hH p bx oe ne ce te n ol nl c tl E l) := by
  refine Spec.of (E := [(0, ptrH p), (1, .int .i64 i)]) Tryz.func154 rfl (by kernel_rfl) Tryz.ntmps154 rfl rfl (fun w => ?_)
  refine WC_seq ?_
  refine WC_region ?_
  refine WL_val rfl rfl rfl (R_assign rfl rfl) ?_
  refine WL_val rfl rfl rfl (R_assign rfl rfl) ?_
  refine WL_val rfl rfl rfl (R_assign rfl rfl) ?_
  refine WL_nil ?_
  refine WQ_code ?_
  refine WC_seq ?_
  refine WC_block ?_
  refine WC_seq ?_
  refine WC_region ?_
  refine WL_val rfl rfl rfl (R_move rfl rfl) ?_
  refine WL_do rfl rfl rfl (D_call (hzero_ok p bx _ _ _ _ _ _ _) rfl rfl rfl rfl (pqY)) ?_
  rintro _ _ ⟨_, ⟨rfl, rfl⟩, rfl⟩
  refine WL_val rfl rfl rfl (R_assign rfl rfl) ?_
  refine WL_nil ?_
  refine WQ_code ?_
  refine WC_F rfl ?_
  refine WC_seq ?_
  refine WC_region ?_
  refine WL_val rfl rfl rfl (R_move rfl rfl) ?_
  refine WL_val rfl rfl rfl (R_move rfl rfl) ?_
  refine WL_do rfl rfl rfl (D_call (hhas_x p bx oe ne ce te n ol nl c tl E l W hp hne hnl hoe hol i false (by simp; exact fun h e => hd h e)) rfl rfl rfl rfl (pqY)) ?_
  rintro _ _ ⟨_, ⟨rfl, rfl⟩, rfl⟩
  refine WL_val rfl rfl rfl (R_not rfl rfl) ?_
  refine WL_val rfl rfl rfl (R_assign rfl rfl) ?_
  refine WL_nil ?_
  refine WQ_code ?_
  refine WC_T rfl ?_
  refine WC_seq ?_
  refine WC_region ?_
  refine WL_val rfl rfl rfl (R_assign rfl rfl) ?_
  refine WL_val rfl rfl rfl (R_assign rfl rfl) ?_
  refine WL_val rfl rfl rfl (R_assign rfl rfl) ?_
  refine WL_nil ?_
  refine WQ_code ?_
  refine WC_ret ?_
  refine WQ_ret rfl rfl (.cons (.tmp rfl) (.cons (.tmp rfl) (.cons (.tmp rfl) .nil))) rfl (by
      exact ⟨rfl, rfl⟩) (pqY)
theorem hget_x (p bx : Nat) (oe : Option Nat) (ne ce : Nat) (te : List Value) (n : Nat) (ol : Option Nat) (nl c : Nat) (tl : List Value) (E : List El) (l : List Nat) (W : List WE) (hp : Hp W E l n) (hne : E.length = ne) (hnl : l.length = nl) (hoe : Own oe ne ce 4 (E.flatMap encEl) te) (hol : Own ol nl c 1 (ivn l) tl) (h : Nat) (hd : h ∈ l) (x : El) (hx : E[h]? = some x) : Spec Tryz.prog 154 [ptrH p, .int .i64 (h : Int)] (hH p bx oe ne ce te n ol nl c tl E l) (fun r H' => r = .tuple #[.int .u64 (x.key : Int), .int .i64 x.value, .int .i64 0] ∧ H' = hH p bx oe ne ce te n ol nl c tl E l) := by
  have hlt := (List.getElem?_eq_some_iff.1 hx).1
  obtain ⟨be, rfl⟩ := hoe.some_of (by omega)
  refine Spec.of (E := [(0, ptrH p), (1, .int .i64 (h : Int))]) Tryz.func154 rfl (by kernel_rfl) Tryz.ntmps154 rfl rfl (fun w => ?_)
  refine WC_seq ?_
  refine WC_region ?_
  refine WL_val rfl rfl rfl (R_assign rfl rfl) ?_
  refine WL_val rfl rfl rfl (R_assign rfl rfl) ?_
  refine WL_val rfl rfl rfl (R_assign rfl rfl) ?_
  refine WL_nil ?_
  refine WQ_code ?_
  refine WC_seq ?_
  refine WC_block ?_
  refine WC_seq ?_
  refine WC_region ?_
  refine WL_val rfl rfl rfl (R_move rfl rfl) ?_
  refine WL_do rfl rfl rfl (D_call (hzero_ok p bx _ _ _ _ _ _ _) rfl rfl rfl rfl (pqY)) ?_
  rintro _ _ ⟨_, ⟨rfl, rfl⟩, rfl⟩
  refine WL_val rfl rfl rfl (R_assign rfl rfl) ?_
  refine WL_nil ?_
  refine WQ_code ?_
  refine WC_F rfl ?_
  refine WC_seq ?_
  refine WC_region ?_
  refine WL_val rfl rfl rfl (R_move rfl rfl) ?_
  refine WL_val rfl rfl rfl (R_move rfl rfl) ?_
  refine WL_do rfl rfl rfl (D_call (hhas_x p bx (some be) ne ce te n ol nl c tl E l W hp hne hnl hoe hol (h : Int) true ⟨fun _ => ⟨h, rfl, hd⟩, fun _ => rfl⟩) rfl rfl rfl rfl (pqY)) ?_
  rintro _ _ ⟨_, ⟨rfl, rfl⟩, rfl⟩
  refine WL_val rfl rfl rfl (R_not rfl rfl) ?_
  refine WL_val rfl rfl rfl (R_assign rfl rfl) ?_
  refine WL_nil ?_
  refine WQ_code ?_
  refine WC_F rfl ?_
  refine WC_skip ?_
  refine WQ_code ?_
  refine WC_seq ?_
  refine WC_region ?_
  refine WL_val rfl rfl rfl (R_move rfl rfl) ?_
  refine WL_val rfl rfl rfl (R_nilCheck rfl rfl) ?_
  refine WL_val rfl rfl rfl (R_fieldAddr rfl fa293_1 rfl) ?_
  refine WL_val rfl rfl rfl (R_load rfl sc288 rfl (mmY) rfl) ?_
  refine WL_val rfl rfl rfl (R_move rfl rfl) ?_
  refine WL_val rfl rfl rfl (R_indexAddrN rfl Tryz.underlying288 Tryz.sizeOf300 rfl rfl (by omega)) ?_
  refine WL_val rfl rfl rfl (R_loadA (vs := encEl x) rfl ag300 rfl (mmY) rfl (fm_at0 encEl4 hx (j := 0) (vs := encEl x) (fun j v h => by rw [Nat.zero_add]; exact h) (Nat.le_refl 4))) ?_
  refine WL_do rfl rfl rfl (D_alloc rfl zv300) ?_
  rintro _ _ ⟨b1, rfl, rfl⟩
  refine WL_do0 rfl rfl (D_store (vs := [_, _, _, _]) rfl Tryz.sizeOf300 rfl rfl rfl rfl rfl (plY) (by exact Nat.le_of_ble_eq_true rfl)) ?_
  rintro _ _ rfl
  refine WL_nil ?_
  refine WQ_code ?_
  refine WC_seq ?_
  refine WC_draw _ [(0, true), (1, true), (2, true), (3, true), (4, true), (5, true), (6, true)] followsMixed rfl rfl (by kernel_rfl) .all ?_
  refine WM_val rfl rfl rfl rfl (R_fieldAddr rfl fa300_0 rfl) ?_
  refine WM_val rfl rfl rfl rfl (R_load rfl sc28 rfl (mmY) rfl) ?_
  refine WM_val rfl rfl rfl rfl (R_fieldAddr rfl fa300_1 rfl) ?_
  refine WM_val rfl rfl rfl rfl (R_load rfl sc3 rfl (mmY) rfl) ?_
  refine WM_val rfl rfl rfl rfl (R_assign rfl rfl) ?_
  refine WM_val rfl rfl rfl rfl (R_assign rfl rfl) ?_
  refine WM_val rfl rfl rfl rfl (R_assign rfl rfl) ?_
  refine WM_nil ?_
  refine WQ_code ?_
  refine WC_ret ?_
  refine WQ_ret rfl rfl (.cons (.tmp rfl) (.cons (.tmp rfl) (.cons (.tmp rfl) .nil))) rfl (by
      exact ⟨rfl, rfl⟩) (pqY)
theorem hpf_ok (x : El) : Spec Tryz.prog 187 [.agg #[.int .u64 (x.key : Int), .int .i64 x.value, .int .u64 (x.seq : Int), .int .i64 x.pos]] [] (fun r H' => r = .bool (decide (x.pos < 0)) ∧ H' = []) := by
  refine Spec.of (E := [(0, .agg #[.int .u64 (x.key : Int), .int .i64 x.value, .int .u64 (x.seq : Int), .int .i64 x.pos])]) Tryz.func187 rfl (by kernel_rfl) Tryz.ntmps187 rfl rfl (fun w => ?_)
  refine WC_seq ?_
  refine WC_region ?_
  refine WL_do rfl rfl rfl (D_box (cs := [_, _, _, _]) rfl rfl rfl) ?_
  rintro _ _ ⟨b1, rfl, rfl⟩
  refine WL_val rfl rfl rfl (R_assign rfl rfl) ?_
  refine WL_nil ?_
  refine WQ_code ?_
  refine WC_seq ?_
  refine WC_region ?_
  refine WL_val rfl rfl rfl (R_fieldAddr rfl fa300_3 rfl) ?_
  refine WL_val rfl rfl rfl (R_load rfl sc3 rfl (mmY) rfl) ?_
  refine WL_val rfl rfl rfl (R_lss rfl rfl rfl) ?_
  refine WL_val rfl rfl rfl (R_assign rfl rfl) ?_
  refine WL_nil ?_
  refine WQ_code ?_
  refine WC_ret ?_
  refine WQ_ret rfl rfl (.cons (.tmp rfl) .nil) rfl (by
      exact ⟨rfl, rfl⟩) (pqY)
theorem fr_stop {E : List El} {k : Nat} {x : El} (hx : E[k]? = some x) (hk : k ≤ fr E) (h : x.pos < 0) : fr E = k := by
  rcases Nat.lt_or_ge k (fr E) with h1 | h1
  · have := List.not_of_lt_findIdx h1
    obtain ⟨hlt, rfl⟩ := List.getElem?_eq_some_iff.1 hx
    simp at this
    omega
  · omega
theorem fr_next {E : List El} {k : Nat} {x : El} (hx : E[k]? = some x) (hk : k ≤ fr E) (h : ¬ x.pos < 0) : k + 1 ≤ fr E := by
  rcases Nat.lt_or_ge k (fr E) with h1 | h1
  · exact h1
  · exfalso
    obtain ⟨hlt, rfl⟩ := List.getElem?_eq_some_iff.1 hx
    have e : k = fr E := by omega
    subst e
    have := List.findIdx_getElem (w := hlt)
    simp only [decide_eq_true_eq] at this
    exact h this
theorem hidx_ok (oe : Option Nat) (ne ce : Nat) (te : List Value) (E : List El) (hne : E.length = ne) (hoe : Own oe ne ce 4 (E.flatMap encEl) te) : Spec Tryz.prog 186 [slV oe ne ce, .func (.func 187) #[] #[]] [⟨oe, cl (E.flatMap encEl ++ te) 300⟩]
    (fun r H' => ∃ i : Int, r = .int .i64 i ∧ (i = (fr E : Int) ∧ fr E < ne ∨ i = -1 ∧ fr E = ne) ∧ H' = [⟨oe, cl (E.flatMap encEl ++ te) 300⟩]) := by
  have hbg := hoe.big
  have hle := hoe.le
  refine Spec.of (E := [(0, slV oe ne ce), (1, .func (.func 187) #[] #[])]) Tryz.func186 rfl (by kernel_rfl) Tryz.ntmps186 rfl rfl (fun w => ?_)
  refine WC_seq ?_
  refine WC_region ?_
  refine WL_val rfl rfl rfl (R_assign rfl rfl) ?_
  refine WL_nil ?_
  refine WQ_code ?_
  refine WC_seq ?_
  refine WC_seq ?_
  refine WC_region ?_
  refine WL_val rfl rfl rfl (R_move rfl rfl) ?_
  refine WL_val rfl rfl rfl (R_len rfl Tryz.underlying288 rfl) ?_
  refine WL_val rfl rfl rfl (R_move rfl rfl) ?_
  refine WL_nil ?_
  refine WQ_code ?_
  refine WC_block ?_
  refine WC_loopF (G := Nat) [4, 5, 8, 9, 10, 11, 12, 13, 14, 15, 16, 17, 18] (fun j => j ≤ ne ∧ j ≤ fr E) (fun j => [(8, .int .i64 (j : Int))]) (fun j => []) (fun j => ne - j) (0) (⟨Nat.zero_le _, Nat.zero_le _⟩) leZ (pqY) ?_
  rintro j ⟨hj, hjf⟩
  refine WC_seq ?_
  refine WC_region ?_
  refine WL_val rfl rfl rfl (R_lss rfl rfl rfl) ?_
  refine WL_nil ?_
  refine WQ_code ?_
  refine WC_seq ?_
  refine WC_dec rfl (fun c1 => ?_) (fun c1 => ?_)
  · refine WC_skip ?_
    refine WQ_code ?_
    refine WC_seq ?_
    refine WC_block ?_
    refine WC_seq ?_
    refine WC_region ?_
    refine WL_val rfl rfl rfl (R_move rfl rfl) ?_
    refine WL_val rfl rfl rfl (R_assign rfl rfl) ?_
    refine WL_nil ?_
    refine WQ_code ?_
    refine WC_seq ?_
    refine WC_region ?_
    refine WL_val rfl rfl rfl (R_move rfl rfl) ?_
    refine WL_val rfl rfl rfl (R_move rfl rfl) ?_
    refine WL_val rfl rfl rfl (R_move rfl rfl) ?_
    obtain ⟨x, hx⟩ := exE (T := E) (i := j) (by omega)
    obtain ⟨be, hbe⟩ := hoe.some_of (by omega)
    rw [hbe]
    refine WL_val rfl rfl rfl (R_indexAddrN rfl Tryz.underlying288 Tryz.sizeOf300 rfl rfl (by omega)) ?_
    refine WL_val rfl rfl rfl (R_loadA (vs := encEl x) rfl ag300 rfl (mmY) rfl (fm_at0 encEl4 hx (j := 0) (vs := encEl x) (fun j v h => by rw [Nat.zero_add]; exact h) (Nat.le_refl 4))) ?_
    refine WL_do rfl rfl rfl (D_call (hpf_ok x) rfl rfl rfl rfl (pqY)) ?_
    rintro _ _ ⟨_, ⟨rfl, rfl⟩, rfl⟩
    refine WL_nil ?_
    refine WQ_code ?_
    refine WC_dec rfl (fun c2 => ?_) (fun c2 => ?_)
    · have hlt : x.pos < 0 := c2
      refine WC_seq ?_
      refine WC_region ?_
      refine WL_val rfl rfl rfl (R_move rfl rfl) ?_
      refine WL_val rfl rfl rfl (R_assign rfl rfl) ?_
      refine WL_nil ?_
      refine WQ_code ?_
      refine WC_ret ?_
      refine WQ_ret rfl rfl (.cons (.tmp rfl) .nil) rfl (by
          exact ⟨_, rfl, .inl ⟨by rw [fr_stop hx hjf hlt], by rw [fr_stop hx hjf hlt]; omega⟩, rfl⟩) (pqY)
    · have hge : ¬ x.pos < 0 := c2
      refine WC_skip ?_
      refine WQ_code ?_
      refine WC_region ?_
      refine WL_val rfl rfl rfl (R_add rfl rfl rfl (by omega)) ?_
      refine WL_val rfl rfl rfl (R_move rfl rfl) ?_
      refine WL_nil ?_
      refine WQ_nextF (j + 1) (⟨by omega, fr_next hx hjf hge⟩) (by omega) leZ (psZ) rfl (pqY)
  · refine WC_exit ?_
    refine WQ_code ?_
    refine WC_seq ?_
    refine WC_region ?_
    refine WL_val rfl rfl rfl (R_assign rfl rfl) ?_
    refine WL_nil ?_
    refine WQ_code ?_
    refine WC_ret ?_
    refine WQ_ret rfl rfl (.cons (.tmp rfl) .nil) rfl (by
        exact ⟨_, rfl, .inr ⟨rfl, by have := fr_le (E := E); omega⟩, rfl⟩) (pqY)
theorem hpush_x (p bx : Nat) (oe : Option Nat) (ne ce : Nat) (te : List Value) (n : Nat) (ol : Option Nat) (nl c : Nat) (tl : List Value) (E : List El) (l : List Nat) (W : List WE) (hp : Hp W E l n) (hne : E.length = ne) (hnl : l.length = nl) (hoe : Own oe ne ce 4 (E.flatMap encEl) te) (hol : Own ol nl c 1 (ivn l) tl) (h1 : nl < 1024) (hb : n + 1 < 9000000000000000000) (k : Nat) (v : Int) : Spec Tryz.prog 152 [ptrH p, .int .u64 (k : Int), .int .i64 v] (hH p bx oe ne ce te n ol nl c tl E l)
    (fun r H' => ∃ g : HM, r = .tuple #[.int .i64 (fr E : Int), .int .i64 0] ∧ H' = gH g ∧ g.p = p ∧ g.n = n + 1 ∧ HIs (W ++ [⟨fr E, v, k, n + 1⟩]) g) := by
  have hec := hp.ecap
  subst hnl
  refine Spec.of (E := [(0, ptrH p), (1, .int .u64 (k : Int)), (2, .int .i64 v)]) Tryz.func152 rfl (by kernel_rfl) Tryz.ntmps152 rfl rfl (fun w => ?_)
  refine WC_seq ?_
  refine WC_region ?_
  refine WL_val rfl rfl rfl (R_assign rfl rfl) ?_
  refine WL_val rfl rfl rfl (R_assign rfl rfl) ?_
  refine WL_nil ?_
  refine WQ_code ?_
  refine WC_seq ?_
  refine WC_block ?_
  refine WC_seq ?_
  refine WC_region ?_
  refine WL_val rfl rfl rfl (R_move rfl rfl) ?_
  refine WL_do rfl rfl rfl (D_call (hzero_ok p bx _ _ _ _ _ _ _) rfl rfl rfl rfl (pqY)) ?_
  rintro _ _ ⟨_, ⟨rfl, rfl⟩, rfl⟩
  refine WL_val rfl rfl rfl (R_assign rfl rfl) ?_
  refine WL_nil ?_
  refine WQ_code ?_
  refine WC_F rfl ?_
  refine WC_seq ?_
  refine WC_region ?_
  refine WL_val rfl rfl rfl (R_move rfl rfl) ?_
  refine WL_val rfl rfl rfl (R_nilCheck rfl rfl) ?_
  refine WL_val rfl rfl rfl (R_fieldAddr rfl fa293_3 rfl) ?_
  refine WL_val rfl rfl rfl (R_fieldAddr rfl fa291_0 rfl) ?_
  refine WL_val rfl rfl rfl (R_load rfl sc34 rfl (mmY) rfl) ?_
  refine WL_val rfl rfl rfl (R_len rfl Tryz.underlying34 rfl) ?_
  refine WL_val rfl rfl rfl (R_geq rfl rfl rfl) ?_
  refine WL_val rfl rfl rfl (R_assign rfl rfl) ?_
  refine WL_nil ?_
  refine WQ_code ?_
  refine WC_dF rfl (by omega) ?_
  refine WC_skip ?_
  refine WQ_code ?_
  refine WC_seq ?_
  refine WC_region ?_
  refine WL_val rfl rfl rfl (R_move rfl rfl) ?_
  refine WL_val rfl rfl rfl (R_nilCheck rfl rfl) ?_
  refine WL_val rfl rfl rfl (R_fieldAddr rfl fa293_1 rfl) ?_
  refine WL_val rfl rfl rfl (R_load rfl sc288 rfl (mmY) rfl) ?_
  refine WL_do rfl rfl rfl (D_call (hidx_ok oe ne ce te E hne hoe) rfl rfl rfl rfl (pqY)) ?_
  rintro _ _ ⟨_, ⟨i, rfl, hi, rfl⟩, rfl⟩
  refine WL_val rfl rfl rfl (R_assign rfl rfl) ?_
  refine WL_nil ?_
  refine WQ_code ?_
  refine WC_seq ?_
  refine WC_seq ?_
  refine WC_region ?_
  refine WL_val rfl rfl rfl (R_move rfl rfl) ?_
  refine WL_val rfl rfl rfl (R_lss rfl rfl rfl) ?_
  refine WL_nil ?_
  refine WQ_code ?_
  refine WC_dec rfl (fun c1 => ?_) (fun c1 => ?_)
  · have hfe : fr E = ne := by omega
    refine WC_seq ?_
    refine WC_region ?_
    refine WL_val rfl rfl rfl (R_move rfl rfl) ?_
    refine WL_val rfl rfl rfl (R_nilCheck rfl rfl) ?_
    refine WL_val rfl rfl rfl (R_fieldAddr rfl fa293_1 rfl) ?_
    refine WL_val rfl rfl rfl (R_load rfl sc288 rfl (mmY) rfl) ?_
    refine WL_val rfl rfl rfl (R_len rfl Tryz.underlying288 rfl) ?_
    refine WL_val rfl rfl rfl (R_assign rfl rfl) ?_
    refine WL_nil ?_
    refine WQ_code ?_
    refine WC_region ?_
    refine WL_val rfl rfl rfl (R_move rfl rfl) ?_
    refine WL_val rfl rfl rfl (R_move rfl rfl) ?_
    refine WL_val rfl rfl rfl (R_nilCheck rfl rfl) ?_
    refine WL_val rfl rfl rfl (R_fieldAddr rfl fa293_1 rfl) ?_
    refine WL_val rfl rfl rfl (R_load rfl sc288 rfl (mmY) rfl) ?_
    refine WL_val rfl rfl rfl (R_build rfl zv300 pl300 rfl rfl) ?_
    refine WL_do rfl rfl rfl (D_buildSlice rfl si288 rfl rfl rfl) ?_
    rintro _ _ ⟨b1, rfl, rfl⟩
    refine WL_do rfl rfl rfl (D_append rfl si288 rfl (hoe) (plY) rfl (mmY) ((atZ : At _ 0 [_, _, _, _])) (rfl) (rfl) (by omega) (by omega)) ?_
    rintro _ _ ⟨ob2, cap2, tl2, rfl, own2, rfl⟩
    obtain ⟨be, rfl⟩ := own2.some_of (by omega)
    rw [show E.flatMap encEl ++ [Value.int .u64 0, .int .i64 0, .int .u64 0, .int .i64 0] = (E ++ [(⟨0, 0, 0, 0⟩ : El)]).flatMap encEl from by rw [List.flatMap_append]; rfl] at own2 ⊢
    refine WL_val rfl rfl rfl (R_nilCheck rfl rfl) ?_
    refine WL_val rfl rfl rfl (R_fieldAddr rfl fa293_1 rfl) ?_
    refine WL_do0 rfl rfl (D_store (vs := [_]) rfl Tryz.sizeOf288 rfl rfl rfl rfl rfl (plY) (by exact Nat.le_of_ble_eq_true rfl)) ?_
    rintro _ _ rfl
    refine WL_nil ?_
    refine WQ_code ?_
    refine WC_seq ?_
    refine WC_region ?_
    rw [show ((ne : Nat) : Int) = ((fr E : Nat) : Int) from by omega]
    have hx : (E ++ [(⟨0, 0, 0, 0⟩ : El)])[fr E]? = some ⟨0, 0, 0, 0⟩ := by rw [hfe, ← hne]; simp
    obtain ⟨st1, ho1, hs1, _⟩ := hp.push0 k v (E1 := E ++ [⟨0, 0, 0, 0⟩]) (.inr ⟨by omega, rfl⟩) (by simp; omega) (by omega) hb
    refine WL_val rfl rfl rfl (R_move rfl rfl) ?_
    refine WL_val rfl rfl rfl (R_nilCheck rfl rfl) ?_
    refine WL_val rfl rfl rfl (R_fieldAddr rfl fa293_2 rfl) ?_
    refine WL_val rfl rfl rfl (R_load rfl sc27 rfl (mmY) rfl) ?_
    refine WL_val rfl rfl rfl (R_addR (r := ((n + 1 : Nat) : Int)) rfl rfl rfl (by rw [w64 ⟨by omega, by omega⟩]; omega)) ?_
    refine WL_val rfl rfl rfl (R_nilCheck rfl rfl) ?_
    refine WL_val rfl rfl rfl (R_fieldAddr rfl fa293_2 rfl) ?_
    refine WL_do0 rfl rfl (D_store (vs := [_]) rfl Tryz.sizeOf27 rfl rfl rfl rfl rfl (plY) (by exact Nat.le_of_ble_eq_true rfl)) ?_
    rintro _ _ rfl
    refine WL_nil ?_
    refine WQ_code ?_
    refine WC_seq ?_
    refine WC_drawR [⟨some be, _⟩] [(0, true), (1, true), (2, true), (3, true), (4, true), (5, true), (6, true), (7, true), (8, true), (9, true), (10, true), (11, true), (12, true), (13, false)] followsMixed rfl rfl (by kernel_rfl) (pqY) ?_
    refine WM_val rfl rfl rfl rfl (R_move rfl rfl) ?_
    refine WM_val rfl rfl rfl rfl (R_nilCheck rfl rfl) ?_
    refine WM_val rfl rfl rfl rfl (R_fieldAddr rfl fa293_1 rfl) ?_
    refine WM_val rfl rfl rfl rfl (R_load rfl sc288 rfl (mmY) rfl) ?_
    refine WM_val rfl rfl rfl rfl (R_move rfl rfl) ?_
    refine WM_val rfl rfl rfl rfl (R_move rfl rfl) ?_
    refine WM_val rfl rfl rfl rfl (R_move rfl rfl) ?_
    refine WM_val rfl rfl rfl rfl (R_move rfl rfl) ?_
    refine WM_val rfl rfl rfl rfl (R_nilCheck rfl rfl) ?_
    refine WM_val rfl rfl rfl rfl (R_fieldAddr rfl fa293_2 rfl) ?_
    refine WM_val rfl rfl rfl rfl (R_load rfl sc27 rfl (mmY) rfl) ?_
    refine WM_val rfl rfl rfl rfl (R_build rfl zv300 pl300 rfl rfl) ?_
    refine WM_val rfl rfl rfl rfl (R_indexAddrN rfl Tryz.underlying288 Tryz.sizeOf300 rfl rfl (by omega)) ?_
    refine WM_do0 rfl rfl rfl (D_store (vs := [_, _, _, _]) rfl Tryz.sizeOf300 rfl rfl rfl rfl rfl (plY) (by exact fm_room0 encEl4 (show fr E < (E ++ [(⟨0, 0, 0, 0⟩ : El)]).length by first | omega | (simp; omega)) (j := 0) (by omega))) ?_
    rintro _ _ rfl
    refine ⟨⟨_, pqY⟩, ?_⟩
    have hput := fm_put0 encEl4 (⟨k, v, n + 1, 0⟩ : El) hx (j := 0) (vs := [.int .u64 (k : Int), .int .i64 v, .int .u64 ((n + 1 : Nat) : Int), .int .i64 0]) (by simp) rfl (tl := tl2)
    rw [Nat.add_zero] at hput
    rw [hput]
    refine WM_nil ?_
    refine WQ_code ?_
    refine WC_seq ?_
    refine WC_region ?_
    refine WL_val rfl rfl rfl (R_move rfl rfl) ?_
    refine WL_val rfl rfl rfl (R_nilCheck rfl rfl) ?_
    refine WL_val rfl rfl rfl (R_fieldAddr rfl fa293_3 rfl) ?_
    refine WL_val rfl rfl rfl (R_move rfl rfl) ?_
    refine WL_do rfl rfl rfl (D_call (qadd_ok p bx be (ne + 1) cap2 tl2 (n + 1) ol c tl ((E ++ [(⟨0, 0, 0, 0⟩ : El)]).set (fr E) ⟨k, v, n + 1, 0⟩) l st1 ho1 (by simp [hne]) hol (by omega) (fr E) _ hs1 hp.fr_out) rfl rfl rfl rfl (pqY)) ?_
    rintro _ _ ⟨_, ⟨E', l', bl, c', tl', rfl, rfl, own', s', p', o'⟩, rfl⟩
    refine WL_nil ?_
    refine WQ_code ?_
    refine WC_seq ?_
    refine WC_region ?_
    refine WL_val rfl rfl rfl (R_move rfl rfl) ?_
    refine WL_val rfl rfl rfl (R_assign rfl rfl) ?_
    refine WL_val rfl rfl rfl (R_assign rfl rfl) ?_
    refine WL_nil ?_
    refine WQ_code ?_
    refine WC_ret ?_
    refine WQ_ret rfl rfl (.cons (.tmp rfl) (.cons (.tmp rfl) .nil)) rfl (by
        exact ⟨⟨p, bx, some be, ne + 1, cap2, tl2, n + 1, some bl, l.length + 1, c', tl', E', l'⟩, rfl, rfl, rfl, rfl, ⟨hp.push k v (E1 := (E ++ [(⟨0, 0, 0, 0⟩ : El)])) (.inr ⟨by omega, rfl⟩) (by first | omega | (simp; omega)) (by omega) hb s' p' (by rw [p'.length_eq, List.length_append, List.length_singleton]; exact o'.cong (fun j _ => by rw [rkl, rkl, s'.rk])), by dsimp only; rw [s'.len]; simp [hne], by dsimp only; rw [p'.length_eq]; simp, own2.like (by simp only [fm_length encEl4, s'.len, List.length_set]), own'⟩⟩) (pqY)
  · have hfe : fr E < ne := by omega
    obtain rfl : i = (fr E : Int) := by omega
    obtain ⟨be, rfl⟩ := hoe.some_of (by omega)
    obtain ⟨x, hx⟩ := exE (T := E) (i := fr E) (by omega)
    obtain ⟨st1, ho1, hs1, _⟩ := hp.push0 k v (E1 := E) (.inl rfl) (by omega) (by omega) hb
    refine WC_skip ?_
    refine WQ_code ?_
    refine WC_seq ?_
    refine WC_region ?_
    refine WL_val rfl rfl rfl (R_move rfl rfl) ?_
    refine WL_val rfl rfl rfl (R_nilCheck rfl rfl) ?_
    refine WL_val rfl rfl rfl (R_fieldAddr rfl fa293_2 rfl) ?_
    refine WL_val rfl rfl rfl (R_load rfl sc27 rfl (mmY) rfl) ?_
    refine WL_val rfl rfl rfl (R_addR (r := ((n + 1 : Nat) : Int)) rfl rfl rfl (by rw [w64 ⟨by omega, by omega⟩]; omega)) ?_
    refine WL_val rfl rfl rfl (R_nilCheck rfl rfl) ?_
    refine WL_val rfl rfl rfl (R_fieldAddr rfl fa293_2 rfl) ?_
    refine WL_do0 rfl rfl (D_store (vs := [_]) rfl Tryz.sizeOf27 rfl rfl rfl rfl rfl (plY) (by exact Nat.le_of_ble_eq_true rfl)) ?_
    rintro _ _ rfl
    refine WL_nil ?_
    refine WQ_code ?_
    refine WC_seq ?_
    refine WC_drawR [⟨some be, _⟩] [(0, true), (1, true), (2, true), (3, true), (4, true), (5, true), (6, true), (7, true), (8, true), (9, true), (10, true), (11, true), (12, true), (13, false)] followsMixed rfl rfl (by kernel_rfl) (pqY) ?_
    refine WM_val rfl rfl rfl rfl (R_move rfl rfl) ?_
    refine WM_val rfl rfl rfl rfl (R_nilCheck rfl rfl) ?_
    refine WM_val rfl rfl rfl rfl (R_fieldAddr rfl fa293_1 rfl) ?_
    refine WM_val rfl rfl rfl rfl (R_load rfl sc288 rfl (mmY) rfl) ?_
    refine WM_val rfl rfl rfl rfl (R_move rfl rfl) ?_
    refine WM_val rfl rfl rfl rfl (R_move rfl rfl) ?_
    refine WM_val rfl rfl rfl rfl (R_move rfl rfl) ?_
    refine WM_val rfl rfl rfl rfl (R_move rfl rfl) ?_
    refine WM_val rfl rfl rfl rfl (R_nilCheck rfl rfl) ?_
    refine WM_val rfl rfl rfl rfl (R_fieldAddr rfl fa293_2 rfl) ?_
    refine WM_val rfl rfl rfl rfl (R_load rfl sc27 rfl (mmY) rfl) ?_
    refine WM_val rfl rfl rfl rfl (R_build rfl zv300 pl300 rfl rfl) ?_
    refine WM_val rfl rfl rfl rfl (R_indexAddrN rfl Tryz.underlying288 Tryz.sizeOf300 rfl rfl (by omega)) ?_
    refine WM_do0 rfl rfl rfl (D_store (vs := [_, _, _, _]) rfl Tryz.sizeOf300 rfl rfl rfl rfl rfl (plY) (by exact fm_room0 encEl4 (show fr E < E.length by first | omega | (simp; omega)) (j := 0) (by omega))) ?_
    rintro _ _ rfl
    refine ⟨⟨_, pqY⟩, ?_⟩
    have hput := fm_put0 encEl4 (⟨k, v, n + 1, 0⟩ : El) hx (j := 0) (vs := [.int .u64 (k : Int), .int .i64 v, .int .u64 ((n + 1 : Nat) : Int), .int .i64 0]) (by simp) rfl (tl := te)
    rw [Nat.add_zero] at hput
    rw [hput]
    refine WM_nil ?_
    refine WQ_code ?_
    refine WC_seq ?_
    refine WC_region ?_
    refine WL_val rfl rfl rfl (R_move rfl rfl) ?_
    refine WL_val rfl rfl rfl (R_nilCheck rfl rfl) ?_
    refine WL_val rfl rfl rfl (R_fieldAddr rfl fa293_3 rfl) ?_
    refine WL_val rfl rfl rfl (R_move rfl rfl) ?_
    refine WL_do rfl rfl rfl (D_call (qadd_ok p bx be ne ce te (n + 1) ol c tl (E.set (fr E) ⟨k, v, n + 1, 0⟩) l st1 ho1 (by simp [hne]) hol (by omega) (fr E) _ hs1 hp.fr_out) rfl rfl rfl rfl (pqY)) ?_
    rintro _ _ ⟨_, ⟨E', l', bl, c', tl', rfl, rfl, own', s', p', o'⟩, rfl⟩
    refine WL_nil ?_
    refine WQ_code ?_
    refine WC_seq ?_
    refine WC_region ?_
    refine WL_val rfl rfl rfl (R_move rfl rfl) ?_
    refine WL_val rfl rfl rfl (R_assign rfl rfl) ?_
    refine WL_val rfl rfl rfl (R_assign rfl rfl) ?_
    refine WL_nil ?_
    refine WQ_code ?_
    refine WC_ret ?_
    refine WQ_ret rfl rfl (.cons (.tmp rfl) (.cons (.tmp rfl) .nil)) rfl (by
        exact ⟨⟨p, bx, some be, ne, ce, te, n + 1, some bl, l.length + 1, c', tl', E', l'⟩, rfl, rfl, rfl, rfl, ⟨hp.push k v (E1 := E) (.inl rfl) (by first | omega | (simp; omega)) (by omega) hb s' p' (by rw [p'.length_eq, List.length_append, List.length_singleton]; exact o'.cong (fun j _ => by rw [rkl, rkl, s'.rk])), by dsimp only; rw [s'.len]; simp [hne], by dsimp only; rw [p'.length_eq]; simp, hoe.like (by simp only [fm_length encEl4, s'.len, List.length_set]), own'⟩⟩) (pqY)
end Go.Proofs.YtbkdebnkoidicaaGreat
end
section
set_option linter.unusedVariables false
set_option maxRecDepth 20000
set_option maxHeartbeats 4000000
namespace Go.Proofs.YtbkdebnkoidicaaGreat
theorem HOk.cut {F : Nat → Nat} {m : Nat} {l l3 l4 : List Nat} {h : Nat} (o : HOk F m) (p4 : l4.Perm l3) (p3 : (l3 ++ [h]).Perm l) (hnl : l.length = m + 1) : HOk F l4.length := by
  have := p3.length_eq
  rw [List.length_append, List.length_singleton] at this
  rw [p4.length_eq, show l3.length = m from by omega]; exact o
theorem own_cut {bl : Nat} {m c : Nat} {l l3 l4 : List Nat} {h : Nat} {tl : List Value} (own : Own (some bl) (m + 1) c 1 (ivn l) tl) (p4 : l4.Perm l3) (p3 : (l3 ++ [h]).Perm l) (hnl : l.length = m + 1) : Own (some bl) m c 1 (ivn l4) (.int .i64 (h : Int) :: tl) := by
  have h1 := p3.length_eq
  have h2 := own.cap
  have h3 := own.le
  rw [List.length_append, List.length_singleton] at h1
  rw [fm_length encN1] at h2
  refine ⟨?_, ?_, by omega, own.big, fun e => by cases e⟩
  · rw [fm_length encN1, p4.length_eq]; omega
  · rw [fm_length encN1, p4.length_eq, List.length_cons]; omega
theorem hrem_x (p bx : Nat) (oe : Option Nat) (ne ce : Nat) (te : List Value) (n : Nat) (ol : Option Nat) (nl c : Nat) (tl : List Value) (E : List El) (l : List Nat) (W : List WE) (hp : Hp W E l n) (hne : E.length = ne) (hnl : l.length = nl) (hoe : Own oe ne ce 4 (E.flatMap encEl) te) (hol : Own ol nl c 1 (ivn l) tl) (h : Nat) (hd : h ∈ l) : Spec Tryz.prog 151 [ptrH p, .int .i64 (h : Int)] (hH p bx oe ne ce te n ol nl c tl E l)
    (fun r H' => ∃ g : HM, r = .int .i64 0 ∧ H' = gH g ∧ g.p = p ∧ g.n = n ∧ HIs (wremove W h) g) := by
  obtain ⟨w0, x, hw0, hwh, hx, _⟩ := hp.in hd
  obtain ⟨i, px, hi, hil⟩ := hp.at hx hd
  have hcp := hp.cap
  obtain ⟨m, hm⟩ : ∃ m, nl = m + 1 := ⟨nl - 1, by omega⟩
  subst hm
  obtain ⟨be, rfl⟩ := hoe.some_of (show 0 < ne by have := (List.getElem?_eq_some_iff.1 hx).1; omega)
  obtain ⟨bl, rfl⟩ := hol.some_of (show 0 < m + 1 by omega)
  refine Spec.of (E := [(0, ptrH p), (1, .int .i64 (h : Int))]) Tryz.func151 rfl (by kernel_rfl) Tryz.ntmps151 rfl rfl (fun w => ?_)
  refine WC_seq ?_
  refine WC_region ?_
  refine WL_val rfl rfl rfl (R_assign rfl rfl) ?_
  refine WL_nil ?_
  refine WQ_code ?_
  refine WC_seq ?_
  refine WC_block ?_
  refine WC_seq ?_
  refine WC_region ?_
  refine WL_val rfl rfl rfl (R_move rfl rfl) ?_
  refine WL_do rfl rfl rfl (D_call (hzero_ok p bx _ _ _ _ _ _ _) rfl rfl rfl rfl (pqY)) ?_
  rintro _ _ ⟨_, ⟨rfl, rfl⟩, rfl⟩
  refine WL_val rfl rfl rfl (R_assign rfl rfl) ?_
  refine WL_nil ?_
  refine WQ_code ?_
  refine WC_F rfl ?_
  refine WC_seq ?_
  refine WC_region ?_
  refine WL_val rfl rfl rfl (R_move rfl rfl) ?_
  refine WL_val rfl rfl rfl (R_move rfl rfl) ?_
  refine WL_do rfl rfl rfl (D_call (hhas_x p bx (some be) ne ce te n (some bl) (m + 1) c tl E l W hp hne hnl hoe hol (h : Int) true ⟨fun _ => ⟨h, rfl, hd⟩, fun _ => rfl⟩) rfl rfl rfl rfl (pqY)) ?_
  rintro _ _ ⟨_, ⟨rfl, rfl⟩, rfl⟩
  refine WL_val rfl rfl rfl (R_not rfl rfl) ?_
  refine WL_val rfl rfl rfl (R_assign rfl rfl) ?_
  refine WL_nil ?_
  refine WQ_code ?_
  refine WC_F rfl ?_
  refine WC_skip ?_
  refine WQ_code ?_
  refine WC_seq ?_
  refine WC_drawE [⟨some p, _⟩, ⟨some be, _⟩, ⟨some bl, _⟩] [(0, false), (1, false), (2, false), (3, false), (4, false), (5, false), (6, true), (7, false), (8, false), (9, false), (10, true)] [(11, false)] followsMixed rfl rfl (by kernel_rfl) (pqY) ?_
  refine WZ_val rfl rfl rfl rfl (R_move rfl rfl) ?_
  refine WZ_val rfl rfl rfl rfl (R_nilCheck rfl rfl) ?_
  refine WZ_val rfl rfl rfl rfl (R_fieldAddr rfl fa293_3 rfl) ?_
  refine WZ_val rfl rfl rfl rfl (R_move rfl rfl) ?_
  refine WZ_val rfl rfl rfl rfl (R_nilCheck rfl rfl) ?_
  refine WZ_val rfl rfl rfl rfl (R_fieldAddr rfl fa293_1 rfl) ?_
  refine WZ_early rfl rfl rfl rfl (R_load rfl sc288 rfl (mmY) rfl) ?_
  refine WZ_val rfl rfl rfl rfl (R_move rfl rfl) ?_
  refine WZ_val rfl rfl rfl rfl (R_indexAddrN rfl Tryz.underlying288 Tryz.sizeOf300 rfl rfl (by have := (List.getElem?_eq_some_iff.1 hx).1; omega)) ?_
  refine WZ_val rfl rfl rfl rfl (R_fieldAddr rfl fa300_3 rfl) ?_
  refine WZ_early rfl rfl rfl rfl (R_load (v := .int .i64 (i : Int)) rfl sc3 rfl (mmY) ((fm_get0 encEl4 hx (j := 3) (by omega)).trans (congrArg (fun q => some (Value.int .i64 q)) px))) ?_
  refine WZ_rest ?_
  refine WM_do rfl rfl rfl rfl (D_call (qcut_ok p bx be ne ce te n bl (m + 1) c tl E l hp.st hp.ord hne m hnl rfl (by omega) hol.le i h hi) rfl rfl rfl rfl (pqY)) ?_
  rintro _ _ ⟨_, ⟨E2, E3, l3, l4, rfl, rfl, s2, pp2, s3, p4, o4⟩, rfl⟩
  refine ⟨⟨_, pqY⟩, ?_⟩
  refine WM_nil ?_
  refine WQ_code ?_
  refine WC_seq ?_
  refine WC_region ?_
  obtain ⟨x2, hx2, _⟩ := s2.same h x hx
  obtain ⟨x3, hx3, _⟩ := s3.same h x2 hx2
  refine WL_val rfl rfl rfl (R_move rfl rfl) ?_
  refine WL_val rfl rfl rfl (R_nilCheck rfl rfl) ?_
  refine WL_val rfl rfl rfl (R_fieldAddr rfl fa293_1 rfl) ?_
  refine WL_val rfl rfl rfl (R_load rfl sc288 rfl (mmY) rfl) ?_
  refine WL_val rfl rfl rfl (R_move rfl rfl) ?_
  refine WL_val rfl rfl rfl (R_indexAddrN rfl Tryz.underlying288 Tryz.sizeOf300 rfl rfl (by have := (List.getElem?_eq_some_iff.1 hx).1; omega)) ?_
  refine WL_val rfl rfl rfl (R_fieldAddr rfl fa300_3 rfl) ?_
  refine WL_do0 rfl rfl (D_store (vs := [_]) rfl Tryz.sizeOf3 rfl rfl rfl rfl rfl (plY) (by exact fm_room0 encEl4 (List.getElem?_eq_some_iff.1 hx3).1 (j := 3) (by omega))) ?_
  rintro _ _ rfl
  have hput := fm_put0 encEl4 ({ x3 with pos := -1 } : El) hx3 (j := 3) (vs := [.int .i64 (-1)]) (by simp) rfl (tl := te)
  rw [hput, setp_of hx3 (-1)]
  refine WL_nil ?_
  refine WQ_code ?_
  refine WC_seq ?_
  refine WC_region ?_
  refine WL_val rfl rfl rfl (R_assign rfl rfl) ?_
  refine WL_nil ?_
  refine WQ_code ?_
  refine WC_ret ?_
  refine WQ_ret rfl rfl (.cons (.tmp rfl) .nil) rfl (by
      exact ⟨⟨p, bx, some be, ne, ce, te, n, some bl, m, c, .int .i64 (h : Int) :: tl, setp E3 h (-1), l4⟩, rfl, rfl, rfl, rfl, ⟨hp.remove hd s2 pp2 s3 p4 (o4.cut p4 pp2 hnl), by dsimp only; rw [setp_len, s3.len, s2.len]; exact hne, by dsimp only; have := pp2.length_eq; rw [List.length_append, List.length_singleton] at this; rw [p4.length_eq]; omega, hoe.like (by simp only [fm_length encEl4, setp_len, s3.len, s2.len]), own_cut hol p4 pp2 hnl⟩⟩) (pqY)
end Go.Proofs.YtbkdebnkoidicaaGreat
end
section
set_option linter.unusedVariables false
set_option maxRecDepth 20000
namespace Go.Proofs.YtbkdebnkoidicaaGreat
theorem hnew_ok : Spec Tryz.prog 146 [] [] (fun r H' => ∃ g : HM, r = ptrH g.p ∧ H' = gH g ∧ HIs [] g ∧ g.n = 0) :=
  hnew_x.mono fun r H' ⟨p, bx, e1, e2⟩ => ⟨⟨p, bx, none, 0, 0, [], 0, none, 0, 0, [], [], []⟩, e1, e2, ⟨hp_new, rfl, rfl, Own.empty 4, Own.empty 1⟩, rfl⟩
/-- The first element. -/
structure IsMin (W : List WE) (w : WE) : Prop where
  mem : w ∈ W
  min : ∀ u ∈ W, w.k < u.k ∨ (w.k = u.k ∧ w.s ≤ u.s)
theorem HIs.smem {W : List WE} {g : HM} (hg : HIs W g) {a b : WE} (ha : a ∈ W) (hb : b ∈ W) (h : a.s = b.s) : a = b := by
  have hn := hg.hp.inc
  rw [List.pairwise_iff_getElem] at hn
  obtain ⟨i, hi, rfl⟩ := List.mem_iff_getElem.1 ha
  obtain ⟨j, hj, rfl⟩ := List.mem_iff_getElem.1 hb
  rcases Nat.lt_trichotomy i j with e | e | e
  · have := hn i j hi hj e; omega
  · subst e; rfl
  · have := hn j i hj hi e; omega
theorem IsMin.one {W : List WE} {g : HM} (hg : HIs W g) {a b : WE} (ha : IsMin W a) (hb : IsMin W b) : a = b := by
  have h1 := ha.min b hb.mem
  have h2 := hb.min a ha.mem
  exact hg.smem ha.mem hb.mem (by omega)
theorem HIs.top {W : List WE} {g : HM} (hg : HIs W g) (h : W ≠ []) : ∃ w, IsMin W w ∧ g.l[0]? = some w.h := by
  have hl : 0 < g.l.length := by rw [hg.hp.len]; exact List.length_pos_iff.2 h
  obtain ⟨w, hw, e, hm⟩ := hg.hp.top (List.getElem?_eq_getElem hl)
  exact ⟨w, ⟨hw, hm⟩, by rw [List.getElem?_eq_getElem hl, e]⟩
theorem htop_nil (g : HM) (hg : HIs [] g) : Spec Tryz.prog 153 [ptrH g.p] (gH g) (fun r H' => r = .tuple #[.int .i64 0, .int .i64 9] ∧ H' = gH g) := by
  obtain ⟨p, bx, oe, ne, ce, te, n, ol, nl, c, tl, E, l⟩ := g
  obtain ⟨hp, hne, hnl, hoe, hol⟩ := hg
  dsimp only at hp hne hnl hoe hol
  exact htop_none p bx oe ne ce te n ol nl c tl E l (by rw [← hnl, hp.len]; rfl)
theorem htop_w (g : HM) (W : List WE) (hg : HIs W g) (w : WE) (hw : IsMin W w) : Spec Tryz.prog 153 [ptrH g.p] (gH g) (fun r H' => r = .tuple #[.int .i64 (w.h : Int), .int .i64 0] ∧ H' = gH g) := by
  obtain ⟨u, hu, hl⟩ := hg.top (List.ne_nil_of_mem hw.mem)
  obtain rfl := hw.one hg hu
  obtain ⟨p, bx, oe, ne, ce, te, n, ol, nl, c, tl, E, l⟩ := g
  obtain ⟨hp, hne, hnl, hoe, hol⟩ := hg
  dsimp only at hp hne hnl hoe hol
  exact htop_x p bx oe ne ce te n ol nl c tl E l W hp hne hnl hoe hol w.h hl
theorem Hp.out {W : List WE} {E : List El} {l : List Nat} {n : Nat} (hp : Hp W E l n) {i : Int} (h : ∀ w ∈ W, (w.h : Int) ≠ i) : ∀ h : Nat, i = (h : Int) → h ∉ l := fun k e hm => by
  obtain ⟨w, hw, e2⟩ := (hp.mem k).1 hm
  exact h w hw (by rw [e2, e])
theorem Hp.inn {W : List WE} {E : List El} {l : List Nat} {n : Nat} (hp : Hp W E l n) {w : WE} (h : w ∈ W) : w.h ∈ l := (hp.mem _).2 ⟨w, h, rfl⟩
theorem hget_no (g : HM) (W : List WE) (hg : HIs W g) (i : Int) (h : ∀ w ∈ W, (w.h : Int) ≠ i) : Spec Tryz.prog 154 [ptrH g.p, .int .i64 i] (gH g) (fun r H' => r = .tuple #[.int .u64 0, .int .i64 0, .int .i64 9] ∧ H' = gH g) := by
  obtain ⟨p, bx, oe, ne, ce, te, n, ol, nl, c, tl, E, l⟩ := g
  obtain ⟨hp, hne, hnl, hoe, hol⟩ := hg
  dsimp only at hp hne hnl hoe hol
  exact hget_none p bx oe ne ce te n ol nl c tl E l W hp hne hnl hoe hol i (hp.out h)
theorem hget_w (g : HM) (W : List WE) (hg : HIs W g) (w : WE) (hw : w ∈ W) : Spec Tryz.prog 154 [ptrH g.p, .int .i64 (w.h : Int)] (gH g) (fun r H' => r = .tuple #[.int .u64 (w.k : Int), .int .i64 w.v, .int .i64 0] ∧ H' = gH g) := by
  obtain ⟨p, bx, oe, ne, ce, te, n, ol, nl, c, tl, E, l⟩ := g
  obtain ⟨hp, hne, hnl, hoe, hol⟩ := hg
  dsimp only at hp hne hnl hoe hol
  obtain ⟨x, hx, h1, h2, h3⟩ := hp.el w hw
  rw [← h1, ← h2]
  exact hget_x p bx oe ne ce te n ol nl c tl E l W hp hne hnl hoe hol w.h (hp.inn hw) x hx
theorem hrem_w (g : HM) (W : List WE) (hg : HIs W g) (w : WE) (hw : w ∈ W) : Spec Tryz.prog 151 [ptrH g.p, .int .i64 (w.h : Int)] (gH g) (fun r H' => ∃ g' : HM, r = .int .i64 0 ∧ H' = gH g' ∧ g'.p = g.p ∧ g'.n = g.n ∧ HIs (wremove W w.h) g') := by
  obtain ⟨p, bx, oe, ne, ce, te, n, ol, nl, c, tl, E, l⟩ := g
  obtain ⟨hp, hne, hnl, hoe, hol⟩ := hg
  dsimp only at hp hne hnl hoe hol
  exact hrem_x p bx oe ne ce te n ol nl c tl E l W hp hne hnl hoe hol w.h (hp.inn hw)
/-- The smallest number that is no handle. -/
structure IsFree (W : List WE) (f : Nat) : Prop where
  out : ∀ w ∈ W, w.h ≠ f
  below : ∀ j, j < f → ∃ w ∈ W, w.h = j
theorem IsFree.one {W : List WE} {a b : Nat} (ha : IsFree W a) (hb : IsFree W b) : a = b := by
  rcases Nat.lt_trichotomy a b with e | e | e
  · obtain ⟨w, hw, h⟩ := hb.below a e; exact absurd h (ha.out w hw)
  · exact e
  · obtain ⟨w, hw, h⟩ := ha.below b e; exact absurd h (hb.out w hw)
theorem hpush_ok (g : HM) (W : List WE) (hg : HIs W g) (h : W.length < 1024) (hb : g.n + 1 < 9000000000000000000) (f : Nat) (hf : IsFree W f) (k : Nat) (v : Int) : Spec Tryz.prog 152 [ptrH g.p, .int .u64 (k : Int), .int .i64 v] (gH g)
    (fun r H' => ∃ g' : HM, r = .tuple #[.int .i64 (f : Int), .int .i64 0] ∧ H' = gH g' ∧ g'.p = g.p ∧ g'.n = g.n + 1 ∧ HIs (W ++ [⟨f, v, k, g.n + 1⟩]) g') := by
  obtain ⟨p, bx, oe, ne, ce, te, n, ol, nl, c, tl, E, l⟩ := g
  obtain ⟨hp, hne, hnl, hoe, hol⟩ := hg
  dsimp only at hp hne hnl hoe hol
  have e : fr E = f := IsFree.one ⟨fun w hw e => hp.fr_out (e ▸ hp.inn hw), fun j hj => (hp.mem j).1 (hp.below hj)⟩ hf
  subst e
  exact hpush_x p bx oe ne ce te n ol nl c tl E l W hp hne hnl hoe hol (by rw [← hnl, hp.len]; exact h) hb k v
end Go.Proofs.YtbkdebnkoidicaaGreat
end
section
set_option linter.unusedVariables false
set_option maxRecDepth 20000
namespace Go.Proofs.YtbkdebnkoidicaaGreat
/-- A timer that was set once; 'sq': when. -/
structure Tm where
  n : Nat
  gen : Nat
  own : Int
  tm : Nat
  gone : Bool
  sq : Nat
abbrev live (L : List Tm) : List Tm := L.filter (fun t => !t.gone)
def toW (t : Tm) : WE := ⟨t.n, t.own, t.tm, t.sq⟩
abbrev wl (L : List Tm) : List WE := (live L).map toW
def cnt (L : List Tm) (k : Nat) : Nat := L.countP (fun t => decide (t.n = k))
structure TRel (L : List Tm) (gv : List Nat) (n : Nat) : Prop where
  gv : ∀ k, cnt L k = gv.getD k 0
  last : ∀ t ∈ L, t.gone = false → t.gen + 1 = cnt L t.n
  inc : L.Pairwise (fun a b => a.sq < b.sq ∧ (a.n = b.n → a.gen < b.gen))
  lt : ∀ t ∈ L, t.gen < cnt L t.n
  le : ∀ t ∈ L, t.sq ≤ n
  ln : L.length ≤ n
theorem trel_new : TRel [] [] 0 := ⟨fun k => rfl, fun t ht => (by cases ht), .nil, fun t ht => (by cases ht), fun t ht => (by cases ht), Nat.le_refl _⟩
theorem mem_live {L : List Tm} {t : Tm} : t ∈ live L ↔ t ∈ L ∧ t.gone = false := by
  rw [List.mem_filter]; cases t.gone <;> simp
theorem mem_wl {L : List Tm} {w : WE} : w ∈ wl L ↔ ∃ t ∈ L, t.gone = false ∧ toW t = w := by
  rw [List.mem_map]
  constructor
  · rintro ⟨t, ht, h⟩; exact ⟨t, (mem_live.1 ht).1, (mem_live.1 ht).2, h⟩
  · rintro ⟨t, ht, hg, h⟩; exact ⟨t, mem_live.2 ⟨ht, hg⟩, h⟩
theorem cnt_pos {L : List Tm} {t : Tm} (h : t ∈ L) : 0 < cnt L t.n := List.countP_pos_iff.2 ⟨t, h, by simp⟩
theorem cnt_le (L : List Tm) (k : Nat) : cnt L k ≤ L.length := List.countP_le_length
theorem TRel.len {L : List Tm} {gv : List Nat} {n : Nat} (r : TRel L gv n) {t : Tm} (h : t ∈ L) : t.n < gv.length := by
  have h1 := cnt_pos h
  rw [r.gv] at h1
  rcases Nat.lt_or_ge t.n gv.length with h2 | h2
  · exact h2
  · rw [List.getD_eq_getElem?_getD, List.getElem?_eq_none_iff.2 h2] at h1; exact absurd h1 (by simp)
theorem TRel.get {L : List Tm} {gv : List Nat} {n k : Nat} (r : TRel L gv n) (h : k < gv.length) : gv[k]? = some (cnt L k) := by
  rw [r.gv, List.getD_eq_getElem?_getD, List.getElem?_eq_getElem h]; rfl
/-- No two timers have one name. -/
theorem TRel.one {L : List Tm} {gv : List Nat} {n : Nat} (r : TRel L gv n) {i j : Nat} {a b : Tm} (hi : L[i]? = some a) (hj : L[j]? = some b) (h1 : a.n = b.n) (h2 : a.gen = b.gen) : i = j := by
  have hp := r.inc
  rw [List.pairwise_iff_getElem] at hp
  obtain ⟨h3, rfl⟩ := List.getElem?_eq_some_iff.1 hi
  obtain ⟨h4, rfl⟩ := List.getElem?_eq_some_iff.1 hj
  rcases Nat.lt_trichotomy i j with e | e | e
  · have := (hp i j h3 h4 e).2 h1; omega
  · exact e
  · have := (hp j i h4 h3 e).2 h1.symm; omega
theorem TRel.liveN {L : List Tm} {gv : List Nat} {n : Nat} (r : TRel L gv n) {i j : Nat} {a b : Tm} (hi : L[i]? = some a) (hj : L[j]? = some b) (ha : a.gone = false) (hb : b.gone = false) (h1 : a.n = b.n) : i = j := by
  refine r.one hi hj h1 ?_
  have e1 := r.last a (List.mem_of_getElem? hi) ha
  have e2 := r.last b (List.mem_of_getElem? hj) hb
  rw [h1] at e1
  omega
def rm1 (k : Nat) (u : Tm) : Tm := if u.gone = false ∧ u.n = k then { u with gone := true } else u
theorem rm1_n (k : Nat) (u : Tm) : (rm1 k u).n = u.n := by unfold rm1; split <;> rfl
theorem rm1_gen (k : Nat) (u : Tm) : (rm1 k u).gen = u.gen := by unfold rm1; split <;> rfl
theorem rm1_own (k : Nat) (u : Tm) : (rm1 k u).own = u.own := by unfold rm1; split <;> rfl
theorem rm1_tm (k : Nat) (u : Tm) : (rm1 k u).tm = u.tm := by unfold rm1; split <;> rfl
theorem rm1_sq (k : Nat) (u : Tm) : (rm1 k u).sq = u.sq := by unfold rm1; split <;> rfl
theorem rm1_gone (k : Nat) (u : Tm) : (rm1 k u).gone = (u.gone || decide (u.n = k)) := by unfold rm1; by_cases e : u.n = k <;> cases h : u.gone <;> simp [h, e]
def rmL (L : List Tm) (k : Nat) : List Tm := L.map (rm1 k)
theorem rmL_set {L : List Tm} {gv : List Nat} {n : Nat} (r : TRel L gv n) {i : Nat} {t : Tm} (hi : L[i]? = some t) (hg : t.gone = false) : rmL L t.n = L.set i { t with gone := true } := by
  apply List.ext_getElem?
  intro j
  rw [rmL, List.getElem?_map, List.getElem?_set]
  by_cases e : i = j
  · subst e
    rw [if_pos rfl, if_pos (List.getElem?_eq_some_iff.1 hi).1, hi]
    simp [hg, rm1]
  · rw [if_neg e]
    cases hj : L[j]? with
    | none => rfl
    | some u =>
      simp only [Option.map_some, rm1]
      rw [if_neg (fun h => e (r.liveN hi hj hg h.1 h.2.symm))]
theorem wl_rm (L : List Tm) (k : Nat) : wl (rmL L k) = wremove (wl L) k := by
  rw [wl, wl, live, live, rmL, wremove, List.filter_map, List.map_map, List.filter_map, List.filter_filter]
  have e : L.filter ((fun t : Tm => !t.gone) ∘ rm1 k) = L.filter (fun a => ((fun w : WE => decide (w.h ≠ k)) ∘ toW) a && !a.gone) := List.filter_congr fun u _ => by
    simp only [Function.comp, rm1_gone, toW]
    by_cases h : u.n = k <;> cases u.gone <;> simp [h]
  rw [e]
  refine List.map_congr_left fun u _ => ?_
  simp only [Function.comp, toW, rm1_n, rm1_own, rm1_sq, rm1_tm]
theorem cnt_rm (L : List Tm) (k j : Nat) : cnt (rmL L k) j = cnt L j := by
  rw [cnt, cnt, rmL, List.countP_map]
  exact List.countP_congr fun u _ => by simp only [Function.comp, rm1_n]
theorem TRel.rm {L : List Tm} {gv : List Nat} {n : Nat} (r : TRel L gv n) (k : Nat) : TRel (rmL L k) gv n := by
  refine ⟨fun j => by rw [cnt_rm]; exact r.gv j, fun t ht hg => ?_, ?_, fun t ht => ?_, fun t ht => ?_, by rw [rmL, List.length_map]; exact r.ln⟩
  · obtain ⟨u, hu, rfl⟩ := List.mem_map.1 ht
    rw [rm1_gone, Bool.or_eq_false_iff] at hg
    rw [cnt_rm, rm1_n, rm1_gen]; exact r.last u hu hg.1
  · rw [rmL, List.pairwise_map]
    exact r.inc.imp fun {a b} hab => by rw [rm1_sq, rm1_sq, rm1_n, rm1_n, rm1_gen, rm1_gen]; exact hab
  · obtain ⟨u, hu, rfl⟩ := List.mem_map.1 ht
    rw [cnt_rm, rm1_n, rm1_gen]; exact r.lt u hu
  · obtain ⟨u, hu, rfl⟩ := List.mem_map.1 ht
    rw [rm1_sq]; exact r.le u hu
theorem cnt_snoc (L : List Tm) (t : Tm) (k : Nat) : cnt (L ++ [t]) k = cnt L k + (if t.n = k then 1 else 0) := by
  rw [cnt, cnt, List.countP_append, List.countP_singleton]
  by_cases h : t.n = k <;> simp [h]
/-- The given numbers after one more timer. -/
theorem TRel.add {L : List Tm} {gv gv' : List Nat} {n : Nat} (r : TRel L gv n) (f : Nat) (own : Int) (tm : Nat) (hf : IsFree (wl L) f) (hgv : ∀ k, gv'.getD k 0 = gv.getD k 0 + (if f = k then 1 else 0)) :
    TRel (L ++ [⟨f, cnt L f, own, tm, false, n + 1⟩]) gv' (n + 1) := by
  refine ⟨fun k => by rw [cnt_snoc, hgv, r.gv], fun t ht hg => ?_, ?_, fun t ht => ?_, fun t ht => ?_, by rw [List.length_append, List.length_singleton]; have := r.ln; omega⟩
  · rw [cnt_snoc]
    rcases List.mem_append.1 ht with ht | ht
    · have hne : f ≠ t.n := fun e => hf.out (toW t) (mem_wl.2 ⟨t, ht, hg, rfl⟩) e.symm
      rw [if_neg hne]; exact r.last t ht hg
    · rw [List.mem_singleton] at ht
      subst ht
      rw [if_pos rfl]
  · rw [List.pairwise_append]
    refine ⟨r.inc, List.pairwise_singleton _ _, fun a ha b hb => ?_⟩
    rw [List.mem_singleton] at hb
    subst hb
    exact ⟨by have := r.le a ha; dsimp only; omega, fun e => by have := r.lt a ha; dsimp only at e ⊢; rw [e] at this; exact this⟩
  · rw [cnt_snoc]
    rcases List.mem_append.1 ht with ht | ht
    · have := r.lt t ht; omega
    · rw [List.mem_singleton] at ht
      subst ht
      rw [if_pos rfl]; dsimp only; omega
  · rcases List.mem_append.1 ht with ht | ht
    · have := r.le t ht; omega
    · rw [List.mem_singleton] at ht
      subst ht
      exact Nat.le_refl _
theorem wl_add (L : List Tm) (t : Tm) (h : t.gone = false) : wl (L ++ [t]) = wl L ++ [toW t] := by
  rw [wl, live, List.filter_append, List.map_append]
  congr 1
  simp [h]
/-- A free number is at most one more than all that were given. -/
theorem TRel.free {L : List Tm} {gv : List Nat} {n f : Nat} (r : TRel L gv n) (hf : IsFree (wl L) f) : f ≤ gv.length := by
  rcases Nat.eq_zero_or_pos f with h | h
  · omega
  · obtain ⟨w, hw, e⟩ := hf.below (f - 1) (by omega)
    obtain ⟨t, ht, _, rfl⟩ := mem_wl.1 hw
    have := r.len ht
    have e2 : t.n = f - 1 := e
    omega
/-! the first one -/
structure IsFst (L : List Tm) (i : Nat) (t : Tm) : Prop where
  at_ : L[i]? = some t
  g : t.gone = false
  min : ∀ (j : Nat) (u : Tm), L[j]? = some u → u.gone = false → t.tm < u.tm ∨ (t.tm = u.tm ∧ i ≤ j)
theorem IsFst.one {L : List Tm} {i j : Nat} {a b : Tm} (ha : IsFst L i a) (hb : IsFst L j b) : i = j ∧ a = b := by
  have h1 := ha.min j b hb.at_ hb.g
  have h2 := hb.min i a ha.at_ ha.g
  have e : i = j := by omega
  subst e
  have := ha.at_
  rw [hb.at_] at this
  exact ⟨rfl, (Option.some.inj this).symm⟩
/-- The index and the timer. -/
def fstP : List Tm → Option (Nat × Tm)
  | [] => none
  | t :: r => match fstP r with
    | none => if t.gone then none else some (0, t)
    | some (j, u) => if t.gone = false ∧ t.tm ≤ u.tm then some (0, t) else some (j + 1, u)
theorem fstP_none : ∀ {L : List Tm}, fstP L = none ↔ ∀ t ∈ L, t.gone = true
  | [] => by simp [fstP]
  | t :: r => by
    have ih := fstP_none (L := r)
    rw [fstP]
    cases h : fstP r with
    | none =>
      have h2 := ih.1 h
      cases hg : t.gone <;> simp [hg]
      exact h2
    | some x =>
      obtain ⟨j, u⟩ := x
      have h2 : ¬ ∀ t ∈ r, t.gone = true := fun e => by rw [ih.2 e] at h; cases h
      constructor
      · intro e
        dsimp only at e
        split at e <;> cases e
      · intro e
        exact absurd (fun t ht => e t (List.mem_cons_of_mem _ ht)) h2
theorem fstP_some : ∀ {L : List Tm} {i : Nat} {t : Tm}, fstP L = some (i, t) → IsFst L i t
  | [], _, _, h => by cases h
  | x :: r, i, t, h => by
    rw [fstP] at h
    cases hr : fstP r with
    | none =>
      rw [hr] at h
      dsimp only at h
      have h2 := fstP_none.1 hr
      cases hg : x.gone with
      | true => rw [hg] at h; cases h
      | false =>
        rw [hg] at h
        simp only [Bool.false_eq_true, if_false, Option.some.injEq, Prod.mk.injEq] at h
        obtain ⟨rfl, rfl⟩ := h
        refine ⟨rfl, hg, fun j u hj hu => ?_⟩
        cases j with
        | zero => exact .inr ⟨by simp at hj; rw [hj], Nat.le_refl _⟩
        | succ j =>
          have := h2 u (List.mem_of_getElem? (by simpa using hj))
          rw [hu] at this; cases this
    | some y =>
      obtain ⟨j, u⟩ := y
      rw [hr] at h
      dsimp only at h
      have ih := fstP_some hr
      by_cases hc : x.gone = false ∧ x.tm ≤ u.tm
      · rw [if_pos hc] at h
        simp only [Option.some.injEq, Prod.mk.injEq] at h
        obtain ⟨rfl, rfl⟩ := h
        refine ⟨rfl, hc.1, fun k v hk hv => ?_⟩
        cases k with
        | zero => exact .inr ⟨by simp at hk; rw [hk], Nat.le_refl _⟩
        | succ k =>
          have := ih.min k v (by simpa using hk) hv
          omega
      · rw [if_neg hc] at h
        simp only [Option.some.injEq, Prod.mk.injEq] at h
        obtain ⟨rfl, rfl⟩ := h
        refine ⟨by simpa using ih.at_, ih.g, fun k v hk hv => ?_⟩
        cases k with
        | zero =>
          simp at hk
          subst hk
          rw [hv] at hc
          simp only [true_and] at hc
          omega
        | succ k =>
          have := ih.min k v (by simpa using hk) hv
          omega
theorem IsFst.eq {L : List Tm} {i : Nat} {t : Tm} (h : IsFst L i t) : fstP L = some (i, t) := by
  cases hf : fstP L with
  | none =>
    have := fstP_none.1 hf t (List.mem_of_getElem? h.at_)
    rw [h.g] at this; cases this
  | some x =>
    obtain ⟨j, u⟩ := x
    obtain ⟨rfl, rfl⟩ := h.one (fstP_some hf)
    rfl
theorem IsFst.isMin {L : List Tm} {gv : List Nat} {n : Nat} (r : TRel L gv n) {i : Nat} {t : Tm} (h : IsFst L i t) : IsMin (wl L) (toW t) := by
  refine ⟨mem_wl.2 ⟨t, List.mem_of_getElem? h.at_, h.g, rfl⟩, fun w hw => ?_⟩
  obtain ⟨u, hu, hg, rfl⟩ := mem_wl.1 hw
  obtain ⟨j, hj⟩ := List.getElem?_of_mem hu
  have := h.min j u hj hg
  show t.tm < u.tm ∨ (t.tm = u.tm ∧ t.sq ≤ u.sq)
  rcases this with h1 | ⟨h1, h2⟩
  · exact .inl h1
  · refine .inr ⟨h1, ?_⟩
    have hp := r.inc
    rw [List.pairwise_iff_getElem] at hp
    obtain ⟨h3, e3⟩ := List.getElem?_eq_some_iff.1 h.at_
    obtain ⟨h4, e4⟩ := List.getElem?_eq_some_iff.1 hj
    rcases Nat.lt_or_ge i j with e | e
    · have := (hp i j h3 h4 e).1
      rw [e3, e4] at this; omega
    · have : i = j := by omega
      subst this
      rw [e3] at e4
      subst e4
      exact Nat.le_refl _
theorem wl_nil {L : List Tm} : wl L = [] ↔ fstP L = none := by
  rw [fstP_none]
  constructor
  · intro h t ht
    cases hg : t.gone with
    | true => rfl
    | false =>
      have : toW t ∈ wl L := mem_wl.2 ⟨t, ht, hg, rfl⟩
      rw [h] at this; cases this
  · intro h
    rw [List.eq_nil_iff_forall_not_mem]
    intro w hw
    obtain ⟨t, ht, hg, _⟩ := mem_wl.1 hw
    have := h t ht
    rw [hg] at this; cases this
/-- What expires by a time, one after the other, and what is left. -/
def expL (now : Nat) : Nat → List Tm → List Tm × List Tm
  | 0, L => (L, [])
  | n + 1, L => match fstP L with
    | none => (L, [])
    | some (_, t) => if t.tm ≤ now then ((expL now n (rmL L t.n)).1, t :: (expL now n (rmL L t.n)).2) else (L, [])
theorem live_rm {L : List Tm} {gv : List Nat} {n : Nat} (r : TRel L gv n) {i : Nat} {t : Tm} (hi : L[i]? = some t) (hg : t.gone = false) : (live (rmL L t.n)).length + 1 = (live L).length := by
  have e : ∀ (M : List Tm) (j : Nat), M[j]? = some t → (live (M.set j { t with gone := true })).length + 1 = (live M).length := by
    intro M
    induction M with
    | nil => intro j hj; cases hj
    | cons x M ih =>
      intro j hj
      cases j with
      | zero =>
        simp only [List.getElem?_cons_zero, Option.some.injEq] at hj
        subst hj
        simp [live, hg]
      | succ j =>
        have := ih j (by simpa using hj)
        simp only [live, List.set_cons_succ, List.filter_cons]
        split
        · simp only [List.length_cons]; simp only [live] at this; omega
        · exact this
  rw [rmL_set r hi hg]; exact e L i hi
end Go.Proofs.YtbkdebnkoidicaaGreat
end
section
set_option linter.unusedVariables false
set_option maxRecDepth 20000
set_option maxHeartbeats 2000000
namespace Go.Proofs.YtbkdebnkoidicaaGreat
/-- Timers in memory. -/
structure TmM where
  pt : Nat
  g : HM
  og : Option Nat
  ng : Nat
  cg : Nat
  tg : List Value
  gv : List Nat
abbrev tmH (m : TmM) : Heap := ⟨some m.pt, cl [ptrH m.g.p, slV m.og m.ng m.cg] 245⟩ :: ⟨m.og, cl (ivn m.gv ++ m.tg) 3⟩ :: gH m.g
structure TIs (L : List Tm) (m : TmM) : Prop where
  h : HIs (wl L) m.g
  r : TRel L m.gv m.g.n
  ng : m.gv.length = m.ng
  own : Own m.og m.ng m.cg 1 (ivn m.gv) m.tg
  gl : m.ng ≤ 1024
theorem IsFree.le {W : List WE} {f : Nat} (h : IsFree W f) : f ≤ W.length := by
  have : (List.range f).length ≤ (hds W).length := List.Nodup.length_le_of_subset List.nodup_range fun j hj => by
    obtain ⟨w, hw, e⟩ := h.below j (List.mem_range.1 hj)
    exact List.mem_map.2 ⟨w, hw, e⟩
  rw [List.length_range, List.length_map] at this; exact this
theorem TIs.nb {L : List Tm} {m : TmM} (h : TIs L m) : m.g.n < 9000000000000000000 := h.h.hp.nb
theorem mzero_ok (pt p : Nat) (x : Value) : Spec Tryz.prog 149 [ptrH pt] [⟨some pt, cl [ptrH p, x] 245⟩] (fun r H' => r = .bool false ∧ H' = [⟨some pt, cl [ptrH p, x] 245⟩]) := by
  refine Spec.of (E := [(0, ptrH pt)]) Tryz.func149 rfl (by kernel_rfl) Tryz.ntmps149 rfl rfl (fun w => ?_)
  refine WC_seq ?_
  refine WC_region ?_
  refine WL_val rfl rfl rfl (R_assign rfl rfl) ?_
  refine WL_nil ?_
  refine WQ_code ?_
  refine WC_seq ?_
  refine WC_region ?_
  refine WL_val rfl rfl rfl (R_move rfl rfl) ?_
  refine WL_val rfl rfl rfl (R_ptrEqNil rfl Tryz.underlying158 rfl) ?_
  refine WL_val rfl rfl rfl (R_move rfl rfl) ?_
  refine WL_val rfl rfl rfl (R_move rfl rfl) ?_
  refine WL_val rfl rfl rfl (R_nilCheck rfl rfl) ?_
  refine WL_val rfl rfl rfl (R_fieldAddr rfl fa245_0 rfl) ?_
  refine WL_val rfl rfl rfl (R_load rfl sc242 rfl (mmY) rfl) ?_
  refine WL_val rfl rfl rfl (R_ptrEqNil rfl Tryz.underlying242 rfl) ?_
  refine WL_val rfl rfl rfl (R_pickF rfl rfl rfl) ?_
  refine WL_val rfl rfl rfl (R_assign rfl rfl) ?_
  refine WL_nil ?_
  refine WQ_code ?_
  refine WC_ret ?_
  refine WQ_ret rfl rfl (.cons (.tmp rfl) .nil) rfl (by
      exact ⟨rfl, rfl⟩) (pqY)
theorem mnew_ok : Spec Tryz.prog 86 [] [] (fun r H' => ∃ m : TmM, r = ptrH m.pt ∧ H' = tmH m ∧ TIs [] m ∧ m.g.n = 0) := by
  refine Spec.of (E := []) Tryz.func86 rfl (by kernel_rfl) Tryz.ntmps86 rfl rfl (fun w => ?_)
  refine WC_seq ?_
  refine WC_region ?_
  refine WL_val rfl rfl rfl (R_assign rfl rfl) ?_
  refine WL_nil ?_
  refine WQ_code ?_
  refine WC_seq ?_
  refine WC_region ?_
  refine WL_do rfl rfl rfl (D_call (hnew_ok) rfl rfl rfl rfl (pqY)) ?_
  rintro _ _ ⟨_, ⟨g, rfl, rfl, hg, hgn⟩, rfl⟩
  refine WL_val rfl rfl rfl (R_build rfl zv245 pl245 rfl rfl) ?_
  refine WL_do rfl rfl rfl (D_box (cs := [_, _]) rfl rfl rfl) ?_
  rintro _ _ ⟨b1, rfl, rfl⟩
  refine WL_val rfl rfl rfl (R_assign rfl rfl) ?_
  refine WL_nil ?_
  refine WQ_code ?_
  refine WC_ret ?_
  refine WQ_none 3 ?_
  refine WQ_ret rfl rfl (.cons (.tmp rfl) .nil) rfl (by
      exact ⟨⟨_, g, none, 0, 0, [], []⟩, rfl, rfl, ⟨hg, by (show TRel [] [] g.n); rw [hgn]; exact trel_new, rfl, Own.empty 1, Nat.zero_le _⟩, hgn⟩) (pqY)
theorem mhas_no (L : List Tm) (m : TmM) (ht : TIs L m) (N G : Int) (h : ∀ t ∈ L, t.gone = false → (t.n : Int) ≠ N) : Spec Tryz.prog 150 [ptrH m.pt, .agg #[.int .i64 N, .int .i64 G]] (tmH m) (fun r H' => r = .bool false ∧ H' = tmH m) := by
  have hno : ∀ w ∈ wl L, (w.h : Int) ≠ N := fun w hw => by
    obtain ⟨t, h1, h2, rfl⟩ := mem_wl.1 hw
    exact h t h1 h2
  refine Spec.of (E := [(0, ptrH m.pt), (1, .agg #[.int .i64 N, .int .i64 G])]) Tryz.func150 rfl (by kernel_rfl) Tryz.ntmps150 rfl rfl (fun w => ?_)
  refine WC_seq ?_
  refine WC_region ?_
  refine WL_do rfl rfl rfl (D_box (cs := [_, _]) rfl rfl rfl) ?_
  rintro _ _ ⟨b1, rfl, rfl⟩
  refine WL_val rfl rfl rfl (R_assign rfl rfl) ?_
  refine WL_nil ?_
  refine WQ_code ?_
  refine WC_seq ?_
  refine WC_draw _ [(0, true), (1, true), (2, true), (3, true), (4, true), (5, true), (6, false), (7, true), (8, true), (9, true), (10, true), (11, true), (12, true), (13, true)] followsMixed rfl rfl (by kernel_rfl) .all ?_
  refine WM_val rfl rfl rfl rfl (R_move rfl rfl) ?_
  refine WM_val rfl rfl rfl rfl (R_nilCheck rfl rfl) ?_
  refine WM_val rfl rfl rfl rfl (R_fieldAddr rfl fa245_0 rfl) ?_
  refine WM_val rfl rfl rfl rfl (R_load rfl sc242 rfl (mmY) rfl) ?_
  refine WM_val rfl rfl rfl rfl (R_fieldAddr rfl fa160_0 rfl) ?_
  refine WM_val rfl rfl rfl rfl (R_load rfl sc3 rfl (mmY) rfl) ?_
  refine WM_do rfl rfl rfl rfl (D_call (hget_no m.g (wl L) ht.h N hno) rfl rfl rfl rfl (pqY)) ?_
  rintro _ _ ⟨_, ⟨rfl, rfl⟩, rfl⟩
  refine ⟨⟨_, pqY⟩, ?_⟩
  refine WM_val rfl rfl rfl rfl (R_move rfl rfl) ?_
  refine WM_val rfl rfl rfl rfl (R_extract rfl rfl rfl) ?_
  refine WM_val rfl rfl rfl rfl (R_extract rfl rfl rfl) ?_
  refine WM_val rfl rfl rfl rfl (R_extract rfl rfl rfl) ?_
  refine WM_val rfl rfl rfl rfl (R_assign rfl rfl) ?_
  refine WM_val rfl rfl rfl rfl (R_assign rfl rfl) ?_
  refine WM_val rfl rfl rfl rfl (R_assign rfl rfl) ?_
  refine WM_nil ?_
  refine WQ_code ?_
  refine WC_seq ?_
  refine WC_draw _ [(0, true), (1, true), (2, true), (3, true), (4, true), (5, true), (6, true), (7, true), (8, true), (9, true), (10, true), (11, true), (12, true), (13, true), (14, true), (15, true), (16, true)] followsMixed rfl rfl (by kernel_rfl) .all ?_
  refine WM_val rfl rfl rfl rfl (R_move rfl rfl) ?_
  refine WM_val rfl rfl rfl rfl (R_eql rfl rfl rfl) ?_
  refine WM_set (s := 20) (v := .bool false) rfl (by simp) ?_
  refine WM_val rfl rfl rfl rfl (R_move rfl rfl) ?_
  refine WM_skip rfl rfl rfl rfl ?_
  refine WM_skip rfl rfl rfl rfl ?_
  refine WM_skip rfl rfl rfl rfl ?_
  refine WM_skip rfl rfl rfl rfl ?_
  refine WM_skip rfl rfl rfl rfl ?_
  refine WM_skip rfl rfl rfl rfl ?_
  refine WM_skip rfl rfl rfl rfl ?_
  refine WM_skip rfl rfl rfl rfl ?_
  refine WM_skip rfl rfl rfl rfl ?_
  refine WM_skip rfl rfl rfl rfl ?_
  refine WM_skip rfl rfl rfl rfl ?_
  refine WM_skip rfl rfl rfl rfl ?_
  refine WM_val rfl rfl rfl rfl (R_pickF rfl rfl rfl) ?_
  refine WM_val rfl rfl rfl rfl (R_assign rfl rfl) ?_
  refine WM_nil ?_
  refine WQ_code ?_
  refine WC_ret ?_
  refine WQ_ret rfl rfl (.cons (.tmp rfl) .nil) rfl (by
      exact ⟨rfl, rfl⟩) (pqY)
theorem mhas_yes (L : List Tm) (m : TmM) (ht : TIs L m) (t : Tm) (hm : t ∈ L) (hg : t.gone = false) (G : Int) (hG : -9223372036854775808 ≤ G ∧ G ≤ 9223372036854775807) : Spec Tryz.prog 150 [ptrH m.pt, .agg #[.int .i64 (t.n : Int), .int .i64 G]] (tmH m) (fun r H' => r = .bool (decide (G = (t.gen : Int))) ∧ H' = tmH m) := by
  have hw : toW t ∈ wl L := mem_wl.2 ⟨t, hm, hg, rfl⟩
  have htl := ht.r.len hm
  have hgn := ht.r.get htl
  have hla := ht.r.last t hm hg
  have hcl := cnt_le L t.n
  have hln := ht.r.ln
  have hnb := ht.nb
  have hng := ht.ng
  obtain ⟨bg, hbg⟩ := ht.own.some_of (by omega)
  refine Spec.of (E := [(0, ptrH m.pt), (1, .agg #[.int .i64 (t.n : Int), .int .i64 G])]) Tryz.func150 rfl (by kernel_rfl) Tryz.ntmps150 rfl rfl (fun w => ?_)
  refine WC_seq ?_
  refine WC_region ?_
  refine WL_do rfl rfl rfl (D_box (cs := [_, _]) rfl rfl rfl) ?_
  rintro _ _ ⟨b1, rfl, rfl⟩
  refine WL_val rfl rfl rfl (R_assign rfl rfl) ?_
  refine WL_nil ?_
  refine WQ_code ?_
  refine WC_seq ?_
  refine WC_draw _ [(0, true), (1, true), (2, true), (3, true), (4, true), (5, true), (6, false), (7, true), (8, true), (9, true), (10, true), (11, true), (12, true), (13, true)] followsMixed rfl rfl (by kernel_rfl) .all ?_
  refine WM_val rfl rfl rfl rfl (R_move rfl rfl) ?_
  refine WM_val rfl rfl rfl rfl (R_nilCheck rfl rfl) ?_
  refine WM_val rfl rfl rfl rfl (R_fieldAddr rfl fa245_0 rfl) ?_
  refine WM_val rfl rfl rfl rfl (R_load rfl sc242 rfl (mmY) rfl) ?_
  refine WM_val rfl rfl rfl rfl (R_fieldAddr rfl fa160_0 rfl) ?_
  refine WM_val rfl rfl rfl rfl (R_load rfl sc3 rfl (mmY) rfl) ?_
  refine WM_do rfl rfl rfl rfl (D_call (hget_w m.g (wl L) ht.h (toW t) hw) rfl rfl rfl rfl (pqY)) ?_
  rintro _ _ ⟨_, ⟨rfl, rfl⟩, rfl⟩
  refine ⟨⟨_, pqY⟩, ?_⟩
  refine WM_val rfl rfl rfl rfl (R_move rfl rfl) ?_
  refine WM_val rfl rfl rfl rfl (R_extract rfl rfl rfl) ?_
  refine WM_val rfl rfl rfl rfl (R_extract rfl rfl rfl) ?_
  refine WM_val rfl rfl rfl rfl (R_extract rfl rfl rfl) ?_
  refine WM_val rfl rfl rfl rfl (R_assign rfl rfl) ?_
  refine WM_val rfl rfl rfl rfl (R_assign rfl rfl) ?_
  refine WM_val rfl rfl rfl rfl (R_assign rfl rfl) ?_
  refine WM_nil ?_
  refine WQ_code ?_
  refine WC_seq ?_
  refine WC_draw _ [(0, true), (1, true), (2, true), (3, true), (4, true), (5, true), (6, true), (7, true), (8, true), (9, true), (10, true), (11, true), (12, true), (13, true), (14, true), (15, true), (16, true)] followsMixed rfl rfl (by kernel_rfl) .all ?_
  refine WM_val rfl rfl rfl rfl (R_move rfl rfl) ?_
  refine WM_val rfl rfl rfl rfl (R_eql rfl rfl rfl) ?_
  refine WM_set (s := 20) (v := .bool true) rfl (by simp) ?_
  refine WM_val rfl rfl rfl rfl (R_move rfl rfl) ?_
  rw [hbg]
  refine WM_val rfl rfl rfl rfl (R_move rfl rfl) ?_
  refine WM_val rfl rfl rfl rfl (R_nilCheck rfl rfl) ?_
  refine WM_val rfl rfl rfl rfl (R_fieldAddr rfl fa245_1 rfl) ?_
  refine WM_val rfl rfl rfl rfl (R_load rfl sc34 rfl (mmY) rfl) ?_
  refine WM_val rfl rfl rfl rfl (R_fieldAddr rfl fa160_0 rfl) ?_
  refine WM_val rfl rfl rfl rfl (R_load rfl sc3 rfl (mmY) rfl) ?_
  refine WM_val rfl rfl rfl rfl (R_indexAddrN rfl Tryz.underlying34 Tryz.sizeOf3 rfl rfl (by omega)) ?_
  refine WM_val rfl rfl rfl rfl (R_load (v := .int .i64 ((cnt L t.n : Nat) : Int)) rfl sc3 rfl (mmY) (fm_get0 encN1 hgn (j := 0) (by omega))) ?_
  refine WM_val rfl rfl rfl rfl (R_fieldAddr rfl fa160_1 rfl) ?_
  refine WM_val rfl rfl rfl rfl (R_load rfl sc3 rfl (mmY) rfl) ?_
  refine WM_val rfl rfl rfl rfl (R_addW rfl rfl rfl) ?_
  refine WM_val rfl rfl rfl rfl (R_eql rfl rfl rfl) ?_
  refine WM_val rfl rfl rfl rfl (R_pickT rfl rfl rfl) ?_
  refine WM_val rfl rfl rfl rfl (R_assign rfl rfl) ?_
  refine WM_nil ?_
  refine WQ_code ?_
  refine WC_ret ?_
  rw [← hbg]
  refine WQ_ret rfl rfl (.cons (.tmp rfl) .nil) rfl (by
      exact ⟨congrArg Value.bool (by rw [decide_eq_decide, IntKind.wrap_i64]; omega), rfl⟩) (pqY)
theorem mhas_ok (L : List Tm) (m : TmM) (ht : TIs L m) (N G : Int) (hG : -9223372036854775808 ≤ G ∧ G ≤ 9223372036854775807) (d : Bool) (hd : d = true ↔ ∃ t ∈ L, t.gone = false ∧ (t.n : Int) = N ∧ (t.gen : Int) = G) : Spec Tryz.prog 150 [ptrH m.pt, .agg #[.int .i64 N, .int .i64 G]] (tmH m) (fun r H' => r = .bool d ∧ H' = tmH m) := by
  by_cases h : ∃ t ∈ L, t.gone = false ∧ (t.n : Int) = N
  · obtain ⟨t, h1, h2, rfl⟩ := h
    refine (mhas_yes L m ht t h1 h2 G hG).mono fun r H' ⟨e1, e2⟩ => ⟨?_, e2⟩
    rw [e1, Value.bool.injEq, Bool.eq_iff_iff, decide_eq_true_iff, hd]
    constructor
    · intro e; exact ⟨t, h1, h2, rfl, e.symm⟩
    · rintro ⟨u, h3, h4, h5, h6⟩
      obtain ⟨i, hi⟩ := List.getElem?_of_mem h1
      obtain ⟨j, hj⟩ := List.getElem?_of_mem h3
      have e := ht.r.liveN hi hj h2 h4 (by omega)
      subst e
      rw [hi] at hj
      have := Option.some.inj hj
      subst this
      exact h6.symm
  · refine (mhas_no L m ht N G fun t h1 h2 h3 => h ⟨t, h1, h2, h3⟩).mono fun r H' ⟨e1, e2⟩ => ⟨?_, e2⟩
    rw [e1]
    cases d with
    | false => rfl
    | true =>
      obtain ⟨t, h1, h2, h3, _⟩ := hd.1 rfl
      exact absurd ⟨t, h1, h2, h3⟩ h
theorem mstop_ok (L : List Tm) (m : TmM) (ht : TIs L m) (t : Tm) (hm : t ∈ L) (hg : t.gone = false) : Spec Tryz.prog 98 [ptrH m.pt, .agg #[.int .i64 (t.n : Int), .int .i64 (t.gen : Int)]] (tmH m) (fun r H' => ∃ m' : TmM, r = .int .i64 0 ∧ H' = tmH m' ∧ m'.pt = m.pt ∧ m'.g.n = m.g.n ∧ TIs (rmL L t.n) m') := by
  have hw : toW t ∈ wl L := mem_wl.2 ⟨t, hm, hg, rfl⟩
  have hla := ht.r.last t hm hg
  have hcl := cnt_le L t.n
  have hln := ht.r.ln
  have hnb := ht.nb
  refine Spec.of (E := [(0, ptrH m.pt), (1, .agg #[.int .i64 (t.n : Int), .int .i64 (t.gen : Int)])]) Tryz.func98 rfl (by kernel_rfl) Tryz.ntmps98 rfl rfl (fun w => ?_)
  refine WC_seq ?_
  refine WC_region ?_
  refine WL_do rfl rfl rfl (D_box (cs := [_, _]) rfl rfl rfl) ?_
  rintro _ _ ⟨b1, rfl, rfl⟩
  refine WL_val rfl rfl rfl (R_assign rfl rfl) ?_
  refine WL_nil ?_
  refine WQ_code ?_
  refine WC_seq ?_
  refine WC_block ?_
  refine WC_seq ?_
  refine WC_region ?_
  refine WL_val rfl rfl rfl (R_move rfl rfl) ?_
  refine WL_do rfl rfl rfl (D_call (mzero_ok m.pt m.g.p _) rfl rfl rfl rfl (pqY)) ?_
  rintro _ _ ⟨_, ⟨rfl, rfl⟩, rfl⟩
  refine WL_val rfl rfl rfl (R_assign rfl rfl) ?_
  refine WL_nil ?_
  refine WQ_code ?_
  refine WC_F rfl ?_
  refine WC_seq ?_
  refine WC_region ?_
  refine WL_val rfl rfl rfl (R_move rfl rfl) ?_
  refine WL_val rfl rfl rfl (R_loadA (vs := [_, _]) rfl ag160 rfl (mmY) rfl (atZ)) ?_
  refine WL_do rfl rfl rfl (D_call (mhas_ok L m ht (t.n : Int) (t.gen : Int) (by omega) true ⟨fun _ => ⟨t, hm, hg, rfl, rfl⟩, fun _ => rfl⟩) rfl rfl rfl rfl (pqY)) ?_
  rintro _ _ ⟨_, ⟨rfl, rfl⟩, rfl⟩
  refine WL_val rfl rfl rfl (R_not rfl rfl) ?_
  refine WL_val rfl rfl rfl (R_assign rfl rfl) ?_
  refine WL_nil ?_
  refine WQ_code ?_
  refine WC_F rfl ?_
  refine WC_skip ?_
  refine WQ_code ?_
  refine WC_seq ?_
  refine WC_drawR (gH m.g) [(0, true), (1, true), (2, true), (3, true), (4, true), (5, true), (6, false), (7, true)] followsMixed rfl rfl (by kernel_rfl) (pqY) ?_
  refine WM_val rfl rfl rfl rfl (R_move rfl rfl) ?_
  refine WM_val rfl rfl rfl rfl (R_nilCheck rfl rfl) ?_
  refine WM_val rfl rfl rfl rfl (R_fieldAddr rfl fa245_0 rfl) ?_
  refine WM_val rfl rfl rfl rfl (R_load rfl sc242 rfl (mmY) rfl) ?_
  refine WM_val rfl rfl rfl rfl (R_fieldAddr rfl fa160_0 rfl) ?_
  refine WM_val rfl rfl rfl rfl (R_load rfl sc3 rfl (mmY) rfl) ?_
  refine WM_do rfl rfl rfl rfl (D_call (hrem_w m.g (wl L) ht.h (toW t) hw) rfl rfl rfl rfl (pqY)) ?_
  rintro _ _ ⟨_, ⟨g', rfl, rfl, hgp, hgn, hg'⟩, rfl⟩
  refine ⟨⟨_, pqY⟩, ?_⟩
  refine WM_val rfl rfl rfl rfl (R_assign rfl rfl) ?_
  refine WM_nil ?_
  refine WQ_code ?_
  refine WC_ret ?_
  rw [← hgp]
  refine WQ_ret rfl rfl (.cons (.tmp rfl) .nil) rfl (by
      exact ⟨⟨m.pt, g', m.og, m.ng, m.cg, m.tg, m.gv⟩, rfl, rfl, rfl, hgn, ⟨by rw [wl_rm]; exact hg', by dsimp only; rw [hgn]; exact ht.r.rm _, ht.ng, ht.own, ht.gl⟩⟩) (pqY)
/-- The time of the first one, or Never. -/
def nxtL (L : List Tm) : Nat := match fstP L with
  | none => 18446744073709551615
  | some (_, t) => t.tm
theorem mnext_none (L : List Tm) (m : TmM) (ht : TIs L m) (h : fstP L = none) : Spec Tryz.prog 139 [ptrH m.pt] (tmH m) (fun r H' => r = .int .u64 18446744073709551615 ∧ H' = tmH m) := by
  have hg0 : HIs [] m.g := by have := ht.h; rw [wl_nil.2 h] at this; exact this
  refine Spec.of (E := [(0, ptrH m.pt)]) Tryz.func139 rfl (by kernel_rfl) Tryz.ntmps139 rfl rfl (fun w => ?_)
  refine WC_seq ?_
  refine WC_region ?_
  refine WL_val rfl rfl rfl (R_assign rfl rfl) ?_
  refine WL_nil ?_
  refine WQ_code ?_
  refine WC_seq ?_
  refine WC_seq ?_
  refine WC_region ?_
  refine WL_val rfl rfl rfl (R_move rfl rfl) ?_
  refine WL_do rfl rfl rfl (D_call (mzero_ok m.pt m.g.p _) rfl rfl rfl rfl (pqY)) ?_
  rintro _ _ ⟨_, ⟨rfl, rfl⟩, rfl⟩
  refine WL_nil ?_
  refine WQ_code ?_
  refine WC_F rfl ?_
  refine WC_skip ?_
  refine WQ_code ?_
  refine WC_seq ?_
  refine WC_region ?_
  refine WL_val rfl rfl rfl (R_move rfl rfl) ?_
  refine WL_val rfl rfl rfl (R_nilCheck rfl rfl) ?_
  refine WL_val rfl rfl rfl (R_fieldAddr rfl fa245_0 rfl) ?_
  refine WL_val rfl rfl rfl (R_load rfl sc242 rfl (mmY) rfl) ?_
  refine WL_do rfl rfl rfl (D_call (htop_nil m.g hg0) rfl rfl rfl rfl (pqY)) ?_
  rintro _ _ ⟨_, ⟨rfl, rfl⟩, rfl⟩
  refine WL_val rfl rfl rfl (R_move rfl rfl) ?_
  refine WL_val rfl rfl rfl (R_extract rfl rfl rfl) ?_
  refine WL_val rfl rfl rfl (R_extract rfl rfl rfl) ?_
  refine WL_val rfl rfl rfl (R_assign rfl rfl) ?_
  refine WL_val rfl rfl rfl (R_assign rfl rfl) ?_
  refine WL_nil ?_
  refine WQ_code ?_
  refine WC_seq ?_
  refine WC_seq ?_
  refine WC_region ?_
  refine WL_val rfl rfl rfl (R_move rfl rfl) ?_
  refine WL_val rfl rfl rfl (R_neq rfl rfl rfl) ?_
  refine WL_nil ?_
  refine WQ_code ?_
  refine WC_dT rfl (by simp) ?_
  refine WC_seq ?_
  refine WC_region ?_
  refine WL_val rfl rfl rfl (R_assign rfl rfl) ?_
  refine WL_nil ?_
  refine WQ_code ?_
  refine WC_ret ?_
  refine WQ_ret rfl rfl (.cons (.tmp rfl) .nil) rfl (by
      exact ⟨rfl, rfl⟩) (pqY)
theorem mnext_some (L : List Tm) (m : TmM) (ht : TIs L m) (i : Nat) (t : Tm) (h : IsFst L i t) : Spec Tryz.prog 139 [ptrH m.pt] (tmH m) (fun r H' => r = .int .u64 (t.tm : Int) ∧ H' = tmH m) := by
  have hw := h.isMin ht.r
  refine Spec.of (E := [(0, ptrH m.pt)]) Tryz.func139 rfl (by kernel_rfl) Tryz.ntmps139 rfl rfl (fun w => ?_)
  refine WC_seq ?_
  refine WC_region ?_
  refine WL_val rfl rfl rfl (R_assign rfl rfl) ?_
  refine WL_nil ?_
  refine WQ_code ?_
  refine WC_seq ?_
  refine WC_seq ?_
  refine WC_region ?_
  refine WL_val rfl rfl rfl (R_move rfl rfl) ?_
  refine WL_do rfl rfl rfl (D_call (mzero_ok m.pt m.g.p _) rfl rfl rfl rfl (pqY)) ?_
  rintro _ _ ⟨_, ⟨rfl, rfl⟩, rfl⟩
  refine WL_nil ?_
  refine WQ_code ?_
  refine WC_F rfl ?_
  refine WC_skip ?_
  refine WQ_code ?_
  refine WC_seq ?_
  refine WC_region ?_
  refine WL_val rfl rfl rfl (R_move rfl rfl) ?_
  refine WL_val rfl rfl rfl (R_nilCheck rfl rfl) ?_
  refine WL_val rfl rfl rfl (R_fieldAddr rfl fa245_0 rfl) ?_
  refine WL_val rfl rfl rfl (R_load rfl sc242 rfl (mmY) rfl) ?_
  refine WL_do rfl rfl rfl (D_call (htop_w m.g (wl L) ht.h (toW t) hw) rfl rfl rfl rfl (pqY)) ?_
  rintro _ _ ⟨_, ⟨rfl, rfl⟩, rfl⟩
  refine WL_val rfl rfl rfl (R_move rfl rfl) ?_
  refine WL_val rfl rfl rfl (R_extract rfl rfl rfl) ?_
  refine WL_val rfl rfl rfl (R_extract rfl rfl rfl) ?_
  refine WL_val rfl rfl rfl (R_assign rfl rfl) ?_
  refine WL_val rfl rfl rfl (R_assign rfl rfl) ?_
  refine WL_nil ?_
  refine WQ_code ?_
  refine WC_seq ?_
  refine WC_seq ?_
  refine WC_region ?_
  refine WL_val rfl rfl rfl (R_move rfl rfl) ?_
  refine WL_val rfl rfl rfl (R_neq rfl rfl rfl) ?_
  refine WL_nil ?_
  refine WQ_code ?_
  refine WC_dF rfl (by simp) ?_
  refine WC_skip ?_
  refine WQ_code ?_
  refine WC_seq ?_
  refine WC_region ?_
  refine WL_val rfl rfl rfl (R_move rfl rfl) ?_
  refine WL_val rfl rfl rfl (R_nilCheck rfl rfl) ?_
  refine WL_val rfl rfl rfl (R_fieldAddr rfl fa245_0 rfl) ?_
  refine WL_val rfl rfl rfl (R_load rfl sc242 rfl (mmY) rfl) ?_
  refine WL_val rfl rfl rfl (R_move rfl rfl) ?_
  refine WL_do rfl rfl rfl (D_call (hget_w m.g (wl L) ht.h (toW t) hw.mem) rfl rfl rfl rfl (pqY)) ?_
  rintro _ _ ⟨_, ⟨rfl, rfl⟩, rfl⟩
  refine WL_val rfl rfl rfl (R_move rfl rfl) ?_
  refine WL_val rfl rfl rfl (R_extract rfl rfl rfl) ?_
  refine WL_val rfl rfl rfl (R_extract rfl rfl rfl) ?_
  refine WL_val rfl rfl rfl (R_extract rfl rfl rfl) ?_
  refine WL_val rfl rfl rfl (R_assign rfl rfl) ?_
  refine WL_val rfl rfl rfl (R_assign rfl rfl) ?_
  refine WL_val rfl rfl rfl (R_assign rfl rfl) ?_
  refine WL_nil ?_
  refine WQ_code ?_
  refine WC_seq ?_
  refine WC_region ?_
  refine WL_val rfl rfl rfl (R_move rfl rfl) ?_
  refine WL_val rfl rfl rfl (R_assign rfl rfl) ?_
  refine WL_nil ?_
  refine WQ_code ?_
  refine WC_ret ?_
  refine WQ_ret rfl rfl (.cons (.tmp rfl) .nil) rfl (by
      exact ⟨rfl, rfl⟩) (pqY)
theorem mnext_ok (L : List Tm) (m : TmM) (ht : TIs L m) : Spec Tryz.prog 139 [ptrH m.pt] (tmH m) (fun r H' => r = .int .u64 (nxtL L : Int) ∧ H' = tmH m) := by
  unfold nxtL
  cases h : fstP L with
  | none => exact mnext_none L m ht h
  | some x => obtain ⟨i, t⟩ := x; exact mnext_some L m ht i t (fstP_some h)
end Go.Proofs.YtbkdebnkoidicaaGreat
end
section
set_option linter.unusedVariables false
set_option maxRecDepth 20000
set_option maxHeartbeats 2000000
namespace Go.Proofs.YtbkdebnkoidicaaGreat
theorem gv_add {gv gv1 : List Nat} {f c : Nat} (hx : gv1[f]? = some c) (h1 : ∀ k, gv1.getD k 0 = gv.getD k 0) (k : Nat) : (gv1.set f (c + 1)).getD k 0 = gv.getD k 0 + (if f = k then 1 else 0) := by
  have hl := (List.getElem?_eq_some_iff.1 hx).1
  rw [← h1, List.getD_eq_getElem?_getD, List.getD_eq_getElem?_getD, List.getElem?_set]
  by_cases e : f = k
  · subst e; rw [if_pos rfl, if_pos rfl, if_pos hl, hx]; rfl
  · simp [e]
theorem gv_zero (gv : List Nat) (k : Nat) : (gv ++ [0]).getD k 0 = gv.getD k 0 := by
  rw [List.getD_eq_getElem?_getD, List.getD_eq_getElem?_getD]
  rcases Nat.lt_trichotomy k gv.length with h | h | h
  · rw [List.getElem?_append_left h]
  · subst h; simp
  · rw [List.getElem?_eq_none_iff.2 (by simp; omega), List.getElem?_eq_none_iff.2 (by omega)]
theorem mset_ok (L : List Tm) (m : TmM) (ht : TIs L m) (hroom : (live L).length < 1024) (hb : m.g.n + 1 < 9000000000000000000) (f : Nat) (hf : IsFree (wl L) f) (k : Nat) (hk : k < 18446744073709551615) (own : Int) : Spec Tryz.prog 100 [ptrH m.pt, .int .u64 (k : Int), .int .i64 own] (tmH m)
    (fun r H' => ∃ m' : TmM, r = .tuple #[.agg #[.int .i64 (f : Int), .int .i64 (cnt L f : Int)], .int .i64 0] ∧ H' = tmH m' ∧ m'.pt = m.pt ∧ m'.g.n = m.g.n + 1 ∧ TIs (L ++ [⟨f, cnt L f, own, k, false, m.g.n + 1⟩]) m') := by
  have hll : (wl L).length = (live L).length := List.length_map ..
  have hfl := ht.r.free hf
  have hfw := hf.le
  have hgl := ht.gl
  have hng := ht.ng
  have hcl := cnt_le L f
  have hln := ht.r.ln
  refine Spec.of (E := [(0, ptrH m.pt), (1, .int .u64 (k : Int)), (2, .int .i64 own)]) Tryz.func100 rfl (by kernel_rfl) Tryz.ntmps100 rfl rfl (fun w => ?_)
  refine WC_seq ?_
  refine WC_region ?_
  refine WL_do rfl rfl rfl (D_alloc rfl zv160) ?_
  rintro _ _ ⟨b1, rfl, rfl⟩
  refine WL_val rfl rfl rfl (R_assign rfl rfl) ?_
  refine WL_nil ?_
  refine WQ_code ?_
  refine WC_seq ?_
  refine WC_block ?_
  refine WC_seq ?_
  refine WC_region ?_
  refine WL_val rfl rfl rfl (R_move rfl rfl) ?_
  refine WL_do rfl rfl rfl (D_call (mzero_ok m.pt m.g.p _) rfl rfl rfl rfl (pqY)) ?_
  rintro _ _ ⟨_, ⟨rfl, rfl⟩, rfl⟩
  refine WL_val rfl rfl rfl (R_assign rfl rfl) ?_
  refine WL_nil ?_
  refine WQ_code ?_
  refine WC_F rfl ?_
  refine WC_seq ?_
  refine WC_region ?_
  refine WL_val rfl rfl rfl (R_move rfl rfl) ?_
  refine WL_val rfl rfl rfl (R_eql rfl rfl rfl) ?_
  refine WL_val rfl rfl rfl (R_assign rfl rfl) ?_
  refine WL_nil ?_
  refine WQ_code ?_
  refine WC_dF rfl (by omega) ?_
  refine WC_skip ?_
  refine WQ_code ?_
  refine WC_seq ?_
  refine WC_region ?_
  refine WL_val rfl rfl rfl (R_move rfl rfl) ?_
  refine WL_val rfl rfl rfl (R_nilCheck rfl rfl) ?_
  refine WL_val rfl rfl rfl (R_fieldAddr rfl fa245_0 rfl) ?_
  refine WL_val rfl rfl rfl (R_load rfl sc242 rfl (mmY) rfl) ?_
  refine WL_val rfl rfl rfl (R_move rfl rfl) ?_
  refine WL_val rfl rfl rfl (R_move rfl rfl) ?_
  refine WL_do rfl rfl rfl (D_call (hpush_ok m.g (wl L) ht.h (by omega) hb f hf k own) rfl rfl rfl rfl (pqY)) ?_
  rintro _ _ ⟨_, ⟨g', rfl, rfl, hgp, hgn, hg'⟩, rfl⟩
  refine WL_val rfl rfl rfl (R_move rfl rfl) ?_
  refine WL_val rfl rfl rfl (R_extract rfl rfl rfl) ?_
  refine WL_val rfl rfl rfl (R_extract rfl rfl rfl) ?_
  refine WL_val rfl rfl rfl (R_assign rfl rfl) ?_
  refine WL_val rfl rfl rfl (R_assign rfl rfl) ?_
  refine WL_nil ?_
  refine WQ_code ?_
  refine WC_seq ?_
  refine WC_seq ?_
  refine WC_region ?_
  refine WL_val rfl rfl rfl (R_move rfl rfl) ?_
  refine WL_val rfl rfl rfl (R_neq rfl rfl rfl) ?_
  refine WL_nil ?_
  refine WQ_code ?_
  refine WC_dF rfl (by simp) ?_
  refine WC_skip ?_
  refine WQ_code ?_
  refine WC_seq ?_
  refine WC_seq ?_
  refine WC_region ?_
  refine WL_val rfl rfl rfl (R_move rfl rfl) ?_
  refine WL_val rfl rfl rfl (R_move rfl rfl) ?_
  refine WL_val rfl rfl rfl (R_nilCheck rfl rfl) ?_
  refine WL_val rfl rfl rfl (R_fieldAddr rfl fa245_1 rfl) ?_
  refine WL_val rfl rfl rfl (R_load rfl sc34 rfl (mmY) rfl) ?_
  refine WL_val rfl rfl rfl (R_len rfl Tryz.underlying34 rfl) ?_
  refine WL_val rfl rfl rfl (R_eql rfl rfl rfl) ?_
  refine WL_nil ?_
  refine WQ_code ?_
  refine WC_dec rfl (fun c1 => ?_) (fun c1 => ?_)
  · have hfe : f = m.ng := by omega
    have hx : (m.gv ++ [0])[f]? = some (cnt L f) := by rw [ht.r.gv, List.getD_eq_getElem?_getD, List.getElem?_eq_none_iff.2 (show m.gv.length ≤ f by omega), List.getElem?_append_right (by omega)]; simp [show f - m.gv.length = 0 by omega]
    refine WC_region ?_
    refine WL_val rfl rfl rfl (R_move rfl rfl) ?_
    refine WL_val rfl rfl rfl (R_move rfl rfl) ?_
    refine WL_val rfl rfl rfl (R_nilCheck rfl rfl) ?_
    refine WL_val rfl rfl rfl (R_fieldAddr rfl fa245_1 rfl) ?_
    refine WL_val rfl rfl rfl (R_load rfl sc34 rfl (mmY) rfl) ?_
    refine WL_do rfl rfl rfl (D_buildSlice rfl si34 rfl rfl rfl) ?_
    rintro _ _ ⟨b2, rfl, rfl⟩
    refine WL_do rfl rfl rfl (D_append rfl si34 rfl (ht.own) (plY) rfl (mmY) ((atZ : At _ 0 [_])) (rfl) (rfl) (by omega) (by omega)) ?_
    rintro _ _ ⟨ob3, cap3, tl3, rfl, own3, rfl⟩
    obtain ⟨bg, rfl⟩ := own3.some_of (by omega)
    rw [show ivn m.gv ++ [Value.int .i64 0] = ivn (m.gv ++ [0]) from by rw [ivn_snoc]; rfl] at own3 ⊢
    refine WL_val rfl rfl rfl (R_nilCheck rfl rfl) ?_
    refine WL_val rfl rfl rfl (R_fieldAddr rfl fa245_1 rfl) ?_
    refine WL_do0 rfl rfl (D_store (vs := [_]) rfl Tryz.sizeOf34 rfl rfl rfl rfl rfl (plY) (by exact Nat.le_of_ble_eq_true rfl)) ?_
    rintro _ _ rfl
    refine WL_nil ?_
    refine WQ_code ?_
    refine WC_seq ?_
    refine WC_region ?_
    refine WL_val rfl rfl rfl (R_move rfl rfl) ?_
    refine WL_val rfl rfl rfl (R_nilCheck rfl rfl) ?_
    refine WL_val rfl rfl rfl (R_fieldAddr rfl fa245_1 rfl) ?_
    refine WL_val rfl rfl rfl (R_load rfl sc34 rfl (mmY) rfl) ?_
    refine WL_val rfl rfl rfl (R_move rfl rfl) ?_
    refine WL_val rfl rfl rfl (R_indexAddrN rfl Tryz.underlying34 Tryz.sizeOf3 rfl rfl (by omega)) ?_
    refine WL_val rfl rfl rfl (R_load (v := .int .i64 ((cnt L f : Nat) : Int)) rfl sc3 rfl (mmY) (fm_get0 encN1 hx (j := 0) (by omega))) ?_
    refine WL_val rfl rfl rfl (R_addR (r := ((cnt L f + 1 : Nat) : Int)) rfl rfl rfl (by rw [IntWalk.i64_in _ (by omega)]; omega)) ?_
    refine WL_val rfl rfl rfl (R_indexAddrN rfl Tryz.underlying34 Tryz.sizeOf3 rfl rfl (by omega)) ?_
    refine WL_do0 rfl rfl (D_store (vs := [_]) rfl Tryz.sizeOf3 rfl rfl rfl rfl rfl (plY) (by exact fm_room0 encN1 (List.getElem?_eq_some_iff.1 hx).1 (j := 0) (by omega))) ?_
    rintro _ _ rfl
    have hput := fm_put0 encN1 (cnt L f + 1) hx (j := 0) (vs := [.int .i64 ((cnt L f + 1 : Nat) : Int)]) (by simp) rfl (tl := tl3)
    rw [Nat.add_zero] at hput
    rw [hput]
    refine WL_nil ?_
    refine WQ_code ?_
    refine WC_seq ?_
    refine WC_region ?_
    refine WL_val rfl rfl rfl (R_move rfl rfl) ?_
    refine WL_val rfl rfl rfl (R_move rfl rfl) ?_
    refine WL_val rfl rfl rfl (R_nilCheck rfl rfl) ?_
    refine WL_val rfl rfl rfl (R_fieldAddr rfl fa245_1 rfl) ?_
    refine WL_val rfl rfl rfl (R_load rfl sc34 rfl (mmY) rfl) ?_
    refine WL_val rfl rfl rfl (R_move rfl rfl) ?_
    refine WL_val rfl rfl rfl (R_indexAddrN rfl Tryz.underlying34 Tryz.sizeOf3 rfl rfl (by omega)) ?_
    refine WL_val rfl rfl rfl (R_load (v := .int .i64 ((cnt L f + 1 : Nat) : Int)) rfl sc3 rfl (mmY) (fm_get0 encN1 (show ((m.gv ++ [0]).set f (cnt L f + 1))[f]? = some (cnt L f + 1) by rw [List.getElem?_set, if_pos rfl, if_pos (List.getElem?_eq_some_iff.1 hx).1]) (j := 0) (by omega))) ?_
    refine WL_val rfl rfl rfl (R_subR (r := ((cnt L f : Nat) : Int)) rfl rfl rfl (by rw [IntWalk.i64_in _ (by omega)]; omega)) ?_
    refine WL_val rfl rfl rfl (R_build rfl zv160 pl160 rfl rfl) ?_
    refine WL_do0 rfl rfl (D_store (vs := [_, _]) rfl Tryz.sizeOf160 rfl rfl rfl rfl rfl (plY) (by exact Nat.le_of_ble_eq_true rfl)) ?_
    rintro _ _ rfl
    refine WL_val rfl rfl rfl (R_assign rfl rfl) ?_
    refine WL_nil ?_
    refine WQ_code ?_
    refine WC_ret ?_
    rw [← hgp]
    refine WQ_ret rfl rfl (.cons (.cell (vs := [_, _]) rfl ag160 (mmY) rfl (atZ)) (.cons (.tmp rfl) .nil)) rfl (by
        exact ⟨⟨m.pt, g', some bg, m.ng + 1, cap3, tl3, (m.gv ++ [0]).set f (cnt L f + 1)⟩, rfl, rfl, rfl, hgn, ⟨by rw [wl_add _ _ rfl]; exact hg', by dsimp only; rw [hgn]; exact ht.r.add f own k hf (gv_add hx (gv_zero m.gv)), by dsimp only; rw [List.length_set]; simp [hng], own3.like (by simp only [fm_length encN1, List.length_set]), by dsimp only; omega⟩⟩) (pqY)
  · have hfe : f < m.ng := by omega
    obtain ⟨bg, hbg⟩ := ht.own.some_of (by omega)
    have hx := ht.r.get (show f < m.gv.length by omega)
    rw [hbg]
    refine WC_skip ?_
    refine WQ_code ?_
    refine WC_seq ?_
    refine WC_region ?_
    refine WL_val rfl rfl rfl (R_move rfl rfl) ?_
    refine WL_val rfl rfl rfl (R_nilCheck rfl rfl) ?_
    refine WL_val rfl rfl rfl (R_fieldAddr rfl fa245_1 rfl) ?_
    refine WL_val rfl rfl rfl (R_load rfl sc34 rfl (mmY) rfl) ?_
    refine WL_val rfl rfl rfl (R_move rfl rfl) ?_
    refine WL_val rfl rfl rfl (R_indexAddrN rfl Tryz.underlying34 Tryz.sizeOf3 rfl rfl (by omega)) ?_
    refine WL_val rfl rfl rfl (R_load (v := .int .i64 ((cnt L f : Nat) : Int)) rfl sc3 rfl (mmY) (fm_get0 encN1 hx (j := 0) (by omega))) ?_
    refine WL_val rfl rfl rfl (R_addR (r := ((cnt L f + 1 : Nat) : Int)) rfl rfl rfl (by rw [IntWalk.i64_in _ (by omega)]; omega)) ?_
    refine WL_val rfl rfl rfl (R_indexAddrN rfl Tryz.underlying34 Tryz.sizeOf3 rfl rfl (by omega)) ?_
    refine WL_do0 rfl rfl (D_store (vs := [_]) rfl Tryz.sizeOf3 rfl rfl rfl rfl rfl (plY) (by exact fm_room0 encN1 (List.getElem?_eq_some_iff.1 hx).1 (j := 0) (by omega))) ?_
    rintro _ _ rfl
    have hput := fm_put0 encN1 (cnt L f + 1) hx (j := 0) (vs := [.int .i64 ((cnt L f + 1 : Nat) : Int)]) (by simp) rfl (tl := m.tg)
    rw [Nat.add_zero] at hput
    rw [hput]
    refine WL_nil ?_
    refine WQ_code ?_
    refine WC_seq ?_
    refine WC_region ?_
    refine WL_val rfl rfl rfl (R_move rfl rfl) ?_
    refine WL_val rfl rfl rfl (R_move rfl rfl) ?_
    refine WL_val rfl rfl rfl (R_nilCheck rfl rfl) ?_
    refine WL_val rfl rfl rfl (R_fieldAddr rfl fa245_1 rfl) ?_
    refine WL_val rfl rfl rfl (R_load rfl sc34 rfl (mmY) rfl) ?_
    refine WL_val rfl rfl rfl (R_move rfl rfl) ?_
    refine WL_val rfl rfl rfl (R_indexAddrN rfl Tryz.underlying34 Tryz.sizeOf3 rfl rfl (by omega)) ?_
    refine WL_val rfl rfl rfl (R_load (v := .int .i64 ((cnt L f + 1 : Nat) : Int)) rfl sc3 rfl (mmY) (fm_get0 encN1 (show (m.gv.set f (cnt L f + 1))[f]? = some (cnt L f + 1) by rw [List.getElem?_set, if_pos rfl, if_pos (List.getElem?_eq_some_iff.1 hx).1]) (j := 0) (by omega))) ?_
    refine WL_val rfl rfl rfl (R_subR (r := ((cnt L f : Nat) : Int)) rfl rfl rfl (by rw [IntWalk.i64_in _ (by omega)]; omega)) ?_
    refine WL_val rfl rfl rfl (R_build rfl zv160 pl160 rfl rfl) ?_
    refine WL_do0 rfl rfl (D_store (vs := [_, _]) rfl Tryz.sizeOf160 rfl rfl rfl rfl rfl (plY) (by exact Nat.le_of_ble_eq_true rfl)) ?_
    rintro _ _ rfl
    refine WL_val rfl rfl rfl (R_assign rfl rfl) ?_
    refine WL_nil ?_
    refine WQ_code ?_
    refine WC_ret ?_
    rw [← hgp]
    refine WQ_ret rfl rfl (.cons (.cell (vs := [_, _]) rfl ag160 (mmY) rfl (atZ)) (.cons (.tmp rfl) .nil)) rfl (by
        exact ⟨⟨m.pt, g', some bg, m.ng, m.cg, m.tg, m.gv.set f (cnt L f + 1)⟩, rfl, rfl, rfl, hgn, ⟨by rw [wl_add _ _ rfl]; exact hg', by dsimp only; rw [hgn]; exact ht.r.add f own k hf (gv_add hx (fun _ => rfl)), by dsimp only; rw [List.length_set]; simp [hng], (hbg ▸ ht.own).like (by simp only [fm_length encN1, List.length_set]), by dsimp only; omega⟩⟩) (pqY)
theorem passed_ok (a b : Nat) : Spec Tryz.prog 101 [.int .u64 (a : Int), .int .u64 (b : Int)] [] (fun r H' => r = .bool (decide (b ≠ 18446744073709551615 ∧ a ≤ b)) ∧ H' = []) := by
  refine Spec.of (E := [(0, .int .u64 (a : Int)), (1, .int .u64 (b : Int))]) Tryz.func101 rfl (by kernel_rfl) Tryz.ntmps101 rfl rfl (fun w => ?_)
  refine WC_seq ?_
  refine WC_region ?_
  refine WL_val rfl rfl rfl (R_assign rfl rfl) ?_
  refine WL_nil ?_
  refine WQ_code ?_
  refine WC_seq ?_
  refine WC_region ?_
  refine WL_val rfl rfl rfl (R_move rfl rfl) ?_
  refine WL_val rfl rfl rfl (R_neq rfl rfl rfl) ?_
  refine WL_val rfl rfl rfl (R_move rfl rfl) ?_
  refine WL_splitD (s := 7) rfl (fun c1 => ?_) (fun c1 => ?_)
  · have h7 : (b : Int) ≠ 18446744073709551615 := c1
    refine WL_val rfl rfl rfl (R_move rfl rfl) ?_
    refine WL_val rfl rfl rfl (R_move rfl rfl) ?_
    refine WL_val rfl rfl rfl (R_leq rfl rfl rfl) ?_
    refine WL_val rfl rfl rfl (R_pickT rfl rfl rfl) ?_
    refine WL_val rfl rfl rfl (R_assign rfl rfl) ?_
    refine WL_nil ?_
    refine WQ_code ?_
    refine WC_ret ?_
    refine WQ_ret rfl rfl (.cons (.tmp rfl) .nil) rfl (by
        exact ⟨congrArg Value.bool (by rw [decide_eq_decide]; omega), rfl⟩) (pqY)
  · have h7 : ¬ (b : Int) ≠ 18446744073709551615 := c1
    refine WL_skip rfl rfl rfl ?_
    refine WL_skip rfl rfl rfl ?_
    refine WL_skip rfl rfl rfl ?_
    refine WL_val rfl rfl rfl (R_pickF rfl rfl rfl) ?_
    refine WL_val rfl rfl rfl (R_assign rfl rfl) ?_
    refine WL_nil ?_
    refine WQ_code ?_
    refine WC_ret ?_
    refine WQ_ret rfl rfl (.cons (.tmp rfl) .nil) rfl (by
        exact ⟨congrArg Value.bool (by symm; rw [decide_eq_false_iff_not]; omega), rfl⟩) (pqY)
abbrev encDu (t : Tm) : List Value := [.int .i64 (t.n : Int), .int .i64 (t.gen : Int), .int .i64 t.own, .int .u64 (t.tm : Int)]
theorem encDu4 (t : Tm) : (encDu t).length = 4 := rfl
structure XpW where
  L : List Tm
  m : TmM
  d : List Tm
  ob : Option Nat
  c : Nat
  tl : List Value
theorem nxt_le {L : List Tm} {now : Nat} (h : nxtL L ≤ now) (hn : now < 18446744073709551615) : ∃ i t, IsFst L i t ∧ t.tm ≤ now := by
  unfold nxtL at h
  cases hf : fstP L with
  | none => rw [hf] at h; dsimp only at h; omega
  | some x => obtain ⟨i, t⟩ := x; rw [hf] at h; exact ⟨i, t, fstP_some hf, h⟩
theorem exp_fin (L : List Tm) (now n : Nat) (h : ¬ nxtL L ≤ now) : expL now n L = (L, []) := by
  cases n with
  | zero => rfl
  | succ n =>
    unfold nxtL at h
    rw [expL]
    cases hf : fstP L with
    | none => rfl
    | some x => obtain ⟨i, t⟩ := x; rw [hf] at h; dsimp only at h ⊢; rw [if_neg h]
theorem mexp_ok (L : List Tm) (m : TmM) (ht : TIs L m) (now : Nat) (hnow : now < 18446744073709551615) : Spec Tryz.prog 104 [ptrH m.pt, .int .u64 (now : Int)] (tmH m)
    (fun r H' => ∃ ob c tl, ∃ m' : TmM, r = slV ob (expL now (live L).length L).2.length c ∧ Own ob (expL now (live L).length L).2.length c 4 ((expL now (live L).length L).2.flatMap encDu) tl ∧
      H' = ⟨ob, cl ((expL now (live L).length L).2.flatMap encDu ++ tl) 193⟩ :: tmH m' ∧ m'.pt = m.pt ∧ m'.g.n = m.g.n ∧ TIs (expL now (live L).length L).1 m') := by
  refine Spec.of (E := [(0, ptrH m.pt), (1, .int .u64 (now : Int))]) Tryz.func104 rfl (by kernel_rfl) Tryz.ntmps104 rfl rfl (fun w => ?_)
  refine WC_seq ?_
  refine WC_region ?_
  refine WL_val rfl rfl rfl (R_assign rfl rfl) ?_
  refine WL_nil ?_
  refine WQ_code ?_
  refine WC_seq ?_
  refine WC_region ?_
  refine WL_val rfl rfl rfl (R_assign rfl rfl) ?_
  refine WL_nil ?_
  refine WQ_code ?_
  refine WC_seq ?_
  refine WC_block ?_
  refine WC_none 193 ?_
  refine WC_loopF (G := XpW) [5, 6, 7, 8, 9, 10, 11, 12, 13, 14, 15, 16, 17, 18, 19, 20, 21, 22, 23, 24, 25, 26, 27, 28, 29, 30, 31, 32, 33, 34, 35, 36, 37, 38, 39, 40, 41, 42, 43, 44, 45, 46, 47, 48, 49, 50, 51, 52, 53, 54] (fun y => TIs y.L y.m ∧ y.m.pt = m.pt ∧ y.m.g.n = m.g.n ∧ Own y.ob y.d.length y.c 4 (y.d.flatMap encDu) y.tl ∧ y.d.length + (live y.L).length ≤ 1024 ∧ expL now (live L).length L = ((expL now (live y.L).length y.L).1, y.d ++ (expL now (live y.L).length y.L).2)) (fun y => [(5, slV y.ob y.d.length y.c)]) (fun y => ⟨y.ob, cl (y.d.flatMap encDu ++ y.tl) 193⟩ :: tmH y.m) (fun y => (live y.L).length) (⟨L, m, [], none, 0, []⟩) (⟨ht, rfl, rfl, Own.empty 4, by have h1 := ht.h.hp.cap; rw [ht.h.hp.len, List.length_map] at h1; simpa using h1, rfl⟩) leZ (pqY) ?_
  rintro y ⟨hy, hyp, hyn, hyo, hyc, hye⟩
  rw [← hyp]
  refine WC_seq ?_
  refine WC_seq ?_
  refine WC_region ?_
  refine WL_val rfl rfl rfl (R_move rfl rfl) ?_
  refine WL_do rfl rfl rfl (D_call (mnext_ok y.L y.m hy) rfl rfl rfl rfl (pqY)) ?_
  rintro _ _ ⟨_, ⟨rfl, rfl⟩, rfl⟩
  refine WL_val rfl rfl rfl (R_move rfl rfl) ?_
  refine WL_do rfl rfl rfl (D_call (passed_ok (nxtL y.L) now) rfl rfl rfl rfl (pqY)) ?_
  rintro _ _ ⟨_, ⟨rfl, rfl⟩, rfl⟩
  refine WL_nil ?_
  refine WQ_code ?_
  refine WC_dec rfl (fun c1 => ?_) (fun c1 => ?_)
  · have hpass : now ≠ 18446744073709551615 ∧ nxtL y.L ≤ now := c1
    obtain ⟨i, t, hft, htn⟩ := nxt_le hpass.2 hnow
    have hw := hft.isMin hy.r
    have htm := List.mem_of_getElem? hft.at_
    have htl := hy.r.len htm
    have hgn0 := hy.r.get htl
    have hla := hy.r.last t htm hft.g
    have hcl := cnt_le y.L t.n
    have hln := hy.r.ln
    have hnb := hy.nb
    have hng := hy.ng
    obtain ⟨bg, hbg⟩ := hy.own.some_of (by omega)
    refine WC_skip ?_
    refine WQ_code ?_
    refine WC_block ?_
    refine WC_seq ?_
    refine WC_region ?_
    refine WL_val rfl rfl rfl (R_move rfl rfl) ?_
    refine WL_val rfl rfl rfl (R_nilCheck rfl rfl) ?_
    refine WL_val rfl rfl rfl (R_fieldAddr rfl fa245_0 rfl) ?_
    refine WL_val rfl rfl rfl (R_load rfl sc242 rfl (mmY) rfl) ?_
    refine WL_do rfl rfl rfl (D_call (htop_w y.m.g (wl y.L) hy.h (toW t) hw) rfl rfl rfl rfl (pqY)) ?_
    rintro _ _ ⟨_, ⟨rfl, rfl⟩, rfl⟩
    refine WL_val rfl rfl rfl (R_move rfl rfl) ?_
    refine WL_val rfl rfl rfl (R_extract rfl rfl rfl) ?_
    refine WL_val rfl rfl rfl (R_extract rfl rfl rfl) ?_
    refine WL_val rfl rfl rfl (R_assign rfl rfl) ?_
    refine WL_val rfl rfl rfl (R_assign rfl rfl) ?_
    refine WL_nil ?_
    refine WQ_code ?_
    refine WC_seq ?_
    refine WC_region ?_
    refine WL_val rfl rfl rfl (R_move rfl rfl) ?_
    refine WL_val rfl rfl rfl (R_nilCheck rfl rfl) ?_
    refine WL_val rfl rfl rfl (R_fieldAddr rfl fa245_0 rfl) ?_
    refine WL_val rfl rfl rfl (R_load rfl sc242 rfl (mmY) rfl) ?_
    refine WL_val rfl rfl rfl (R_move rfl rfl) ?_
    refine WL_do rfl rfl rfl (D_call (hget_w y.m.g (wl y.L) hy.h (toW t) hw.mem) rfl rfl rfl rfl (pqY)) ?_
    rintro _ _ ⟨_, ⟨rfl, rfl⟩, rfl⟩
    refine WL_val rfl rfl rfl (R_move rfl rfl) ?_
    refine WL_val rfl rfl rfl (R_extract rfl rfl rfl) ?_
    refine WL_val rfl rfl rfl (R_extract rfl rfl rfl) ?_
    refine WL_val rfl rfl rfl (R_extract rfl rfl rfl) ?_
    refine WL_val rfl rfl rfl (R_assign rfl rfl) ?_
    refine WL_val rfl rfl rfl (R_assign rfl rfl) ?_
    refine WL_val rfl rfl rfl (R_assign rfl rfl) ?_
    refine WL_nil ?_
    refine WQ_code ?_
    refine WC_seq ?_
    refine WC_region ?_
    rw [hbg]
    refine WL_val rfl rfl rfl (R_move rfl rfl) ?_
    refine WL_val rfl rfl rfl (R_move rfl rfl) ?_
    refine WL_val rfl rfl rfl (R_move rfl rfl) ?_
    refine WL_val rfl rfl rfl (R_nilCheck rfl rfl) ?_
    refine WL_val rfl rfl rfl (R_fieldAddr rfl fa245_1 rfl) ?_
    refine WL_val rfl rfl rfl (R_load rfl sc34 rfl (mmY) rfl) ?_
    refine WL_val rfl rfl rfl (R_move rfl rfl) ?_
    refine WL_val rfl rfl rfl (R_indexAddrN rfl Tryz.underlying34 Tryz.sizeOf3 rfl rfl (by (show t.n < y.m.ng); omega)) ?_
    refine WL_val rfl rfl rfl (R_load (v := .int .i64 ((cnt y.L t.n : Nat) : Int)) rfl sc3 rfl (mmY) (fm_get0 encN1 hgn0 (j := 0) (by omega))) ?_
    refine WL_val rfl rfl rfl (R_subR (r := ((t.gen : Nat) : Int)) rfl rfl rfl (by rw [IntWalk.i64_in _ (by omega)]; omega)) ?_
    refine WL_val rfl rfl rfl (R_build rfl zv160 pl160 rfl rfl) ?_
    refine WL_val rfl rfl rfl (R_move rfl rfl) ?_
    refine WL_val rfl rfl rfl (R_move rfl rfl) ?_
    refine WL_val rfl rfl rfl (R_build rfl zv193 pl193 rfl rfl) ?_
    refine WL_do rfl rfl rfl (D_buildSlice rfl si190 rfl rfl rfl) ?_
    rintro _ _ ⟨b1, rfl, rfl⟩
    refine WL_do rfl rfl rfl (D_append rfl si190 rfl (hyo) (plY) rfl (mmY) ((atZ : At _ 0 [_, _, _, _])) (rfl) (rfl) (by omega) (by omega)) ?_
    rintro _ _ ⟨ob2, cap2, tl2, rfl, own2, rfl⟩
    rw [← hbg]
    rw [show y.d.flatMap encDu ++ [Value.int .i64 ((toW t).h : Int), Value.int .i64 (t.gen : Int), Value.int .i64 (toW t).v, Value.int .u64 ((toW t).k : Int)] = (y.d ++ [t]).flatMap encDu from by rw [List.flatMap_append]; rfl, show y.d.length + 1 = (y.d ++ [t]).length from by rw [List.length_append]; rfl] at *
    refine WL_val rfl rfl rfl (R_assign rfl rfl) ?_
    refine WL_nil ?_
    refine WQ_code ?_
    refine WC_region ?_
    refine WL_val rfl rfl rfl (R_move rfl rfl) ?_
    refine WL_val rfl rfl rfl (R_nilCheck rfl rfl) ?_
    refine WL_val rfl rfl rfl (R_fieldAddr rfl fa245_0 rfl) ?_
    refine WL_val rfl rfl rfl (R_load rfl sc242 rfl (mmY) rfl) ?_
    refine WL_val rfl rfl rfl (R_move rfl rfl) ?_
    refine WL_do rfl rfl rfl (D_call (hrem_w y.m.g (wl y.L) hy.h (toW t) hw.mem) rfl rfl rfl rfl (pqY)) ?_
    rintro _ _ ⟨_, ⟨g', rfl, rfl, hgp, hgn, hg'⟩, rfl⟩
    refine WL_nil ?_
    rw [← hgp]
    have hll := live_rm hy.r hft.at_ hft.g
    have hexp : expL now (live y.L).length y.L = ((expL now (live (rmL y.L t.n)).length (rmL y.L t.n)).1, t :: (expL now (live (rmL y.L t.n)).length (rmL y.L t.n)).2) := by rw [← hll, expL, hft.eq]; simp only [if_pos htn]
    rw [hexp] at hye
    refine WQ_nextF (⟨rmL y.L t.n, ⟨y.m.pt, g', y.m.og, y.m.ng, y.m.cg, y.m.tg, y.m.gv⟩, y.d ++ [t], ob2, cap2, tl2⟩) (⟨⟨by rw [wl_rm]; exact hg', by dsimp only; rw [hgn]; exact hy.r.rm _, hy.ng, hy.own, hy.gl⟩, rfl, by dsimp only; rw [hgn]; exact hyn, own2, by dsimp only; rw [List.length_append, List.length_singleton]; omega, by dsimp only; rw [hye, List.append_assoc]; rfl⟩) (by dsimp only; omega) leZ (psZ) rfl (pqY)
  · have hpass : ¬ (now ≠ 18446744073709551615 ∧ nxtL y.L ≤ now) := c1
    have hfin := exp_fin y.L now (live y.L).length (by omega)
    rw [hfin, List.append_nil] at hye
    rw [hye]
    refine WC_exit ?_
    refine WQ_code ?_
    refine WC_seq ?_
    refine WC_region ?_
    refine WL_val rfl rfl rfl (R_move rfl rfl) ?_
    refine WL_val rfl rfl rfl (R_assign rfl rfl) ?_
    refine WL_nil ?_
    refine WQ_code ?_
    refine WC_ret ?_
    refine WQ_ret rfl rfl (.cons (.tmp rfl) .nil) rfl (by
        exact ⟨y.ob, y.c, y.tl, y.m, rfl, hyo, rfl, rfl, hyn, hy⟩) (pqY)
end Go.Proofs.YtbkdebnkoidicaaGreat
end
section
set_option linter.unusedVariables false
set_option maxRecDepth 20000
namespace Go.Proofs.YtbkdebnkoidicaaGreat
theorem live_none {L : List Tm} (h : fstP L = none) : live L = [] := by
  have := wl_nil.2 h
  exact List.map_eq_nil_iff.1 this
/-- What expires by a time, and what is left. -/
def eL (now : Nat) (L : List Tm) : List Tm × List Tm := expL now (live L).length L
theorem eL_none {now : Nat} {L : List Tm} (h : fstP L = none) : eL now L = (L, []) := by rw [eL, live_none h]; rfl
theorem eL_gt {now : Nat} {L : List Tm} {i : Nat} {t : Tm} (h : fstP L = some (i, t)) (hn : ¬ t.tm ≤ now) : eL now L = (L, []) := by
  rw [eL]
  cases (live L).length with
  | zero => rfl
  | succ n => rw [expL, h]; dsimp only; rw [if_neg hn]
theorem eL_le {L : List Tm} {gv : List Nat} {n now : Nat} (r : TRel L gv n) {i : Nat} {t : Tm} (h : fstP L = some (i, t)) (hn : t.tm ≤ now) : eL now L = ((eL now (rmL L t.n)).1, t :: (eL now (rmL L t.n)).2) := by
  have hf := fstP_some h
  have := live_rm r hf.at_ hf.g
  rw [eL, ← this, expL, h]; dsimp only; rw [if_pos hn]; rfl
/-- A property of what expires, by the steps. -/
theorem eL_ind {now : Nat} (motive : List Tm → List Tm × List Tm → Prop) (h0 : ∀ L, fstP L = none → motive L (L, [])) (h1 : ∀ L i t, fstP L = some (i, t) → now < t.tm → motive L (L, []))
    (h2 : ∀ L gv n i t z, TRel L gv n → fstP L = some (i, t) → t.tm ≤ now → motive (rmL L t.n) z → motive L (z.1, t :: z.2)) : ∀ (k : Nat) (L : List Tm) (gv : List Nat) (n : Nat), TRel L gv n → (live L).length = k → motive L (eL now L) := by
  intro k
  induction k with
  | zero =>
    intro L gv n r hk
    have : fstP L = none := by
      cases h : fstP L with
      | none => rfl
      | some x =>
        obtain ⟨i, t⟩ := x
        have hf := fstP_some h
        have := live_rm r hf.at_ hf.g
        omega
    rw [eL_none this]; exact h0 L this
  | succ k ih =>
    intro L gv n r hk
    cases h : fstP L with
    | none => rw [eL_none h]; exact h0 L h
    | some x =>
      obtain ⟨i, t⟩ := x
      have hf := fstP_some h
      by_cases hn : t.tm ≤ now
      · have := live_rm r hf.at_ hf.g
        rw [eL_le r h hn]
        exact h2 L gv n i t _ r h hn (ih _ gv n (r.rm _) (by omega))
      · rw [eL_gt h hn]; exact h1 L i t h (by omega)
theorem rm_mem {L : List Tm} {k : Nat} {t : Tm} (h : t ∈ rmL L k) (hg : t.gone = false) : t ∈ L ∧ t.n ≠ k := by
  obtain ⟨u, hu, rfl⟩ := List.mem_map.1 h
  rw [rm1_gone, Bool.or_eq_false_iff] at hg
  have h2 : ¬ u.n = k := of_decide_eq_false hg.2
  rw [show rm1 k u = u from by unfold rm1; rw [if_neg (fun e => h2 e.2)]]
  exact ⟨hu, h2⟩
theorem eL_mem {L : List Tm} {gv : List Nat} {n now : Nat} (r : TRel L gv n) : ∀ t ∈ (eL now L).2, t ∈ L ∧ t.gone = false ∧ t.tm ≤ now := by
  refine eL_ind (fun L z => ∀ t ∈ z.2, t ∈ L ∧ t.gone = false ∧ t.tm ≤ now) (fun L _ t ht => by cases ht) (fun L i t _ _ u hu => by cases hu) (fun L gv n i t z r h hn ih u hu => ?_) _ L gv n r rfl
  have hf := fstP_some h
  rcases List.mem_cons.1 hu with rfl | hu
  · exact ⟨List.mem_of_getElem? hf.at_, hf.g, hn⟩
  · obtain ⟨a, b, c⟩ := ih u hu
    exact ⟨(rm_mem a b).1, b, c⟩
theorem HIs.free {W : List WE} {g : HM} (h : HIs W g) : ∃ f, IsFree W f := ⟨fr g.E, ⟨fun w hw e => h.hp.fr_out (e ▸ h.hp.inn hw), fun _ hj => (h.hp.mem _).1 (h.hp.below hj)⟩⟩
theorem TIs.live_len {L : List Tm} {m : TmM} (h : TIs L m) : (live L).length ≤ 1024 := by
  have h1 := h.h.hp.cap; rw [h.h.hp.len, List.length_map] at h1; exact h1
/-! calls with any arguments -/
theorem mexp_e (L : List Tm) (m : TmM) (ht : TIs L m) (now : Nat) (hnow : now < 18446744073709551615) : Spec Tryz.prog 104 [ptrH m.pt, .int .u64 (now : Int)] (tmH m)
    (fun r H' => ∃ ob c tl, ∃ m' : TmM, r = slV ob (eL now L).2.length c ∧ Own ob (eL now L).2.length c 4 ((eL now L).2.flatMap encDu) tl ∧
      H' = ⟨ob, cl ((eL now L).2.flatMap encDu ++ tl) 193⟩ :: tmH m' ∧ m'.pt = m.pt ∧ m'.g.n = m.g.n ∧ TIs (eL now L).1 m') := mexp_ok L m ht now hnow
end Go.Proofs.YtbkdebnkoidicaaGreat
end
section
set_option linter.unusedVariables false
set_option maxRecDepth 20000
namespace Go.Proofs.YtbkdebnkoidicaaGreat
/-- The deadline of a place, with its timer. -/
structure Sl where
  at_ : Nat
  set : Bool
  n : Nat
  gen : Nat
abbrev encSl (s : Sl) : List Value := [.int .u64 (s.at_ : Int), .bool s.set, .int .i64 (s.n : Int), .int .i64 (s.gen : Int)]
theorem encSl4 (s : Sl) : (encSl s).length = 4 := rfl
def updF (f : Nat → Nat) (i k : Nat) : Nat → Nat := fun j => if j = i then k else f j
theorem updF_self (f : Nat → Nat) (i k : Nat) : updF f i k i = k := by simp [updF]
theorem updF_ne (f : Nat → Nat) {i j : Nat} (k : Nat) (h : j ≠ i) : updF f i k j = f j := by simp [updF, h]
structure DRel (f : Nat → Nat) (now : Nat) (L : List Tm) (S : List Sl) : Prop where
  nv : now < 18446744073709551615
  len : S.length = 256
  at_ : ∀ (i : Nat) (s : Sl), S[i]? = some s → s.at_ = f i ∧ f i ≤ 18446744073709551615
  set_ : ∀ (i : Nat) (s : Sl), S[i]? = some s → (s.set = true ↔ (now < f i ∧ f i < 18446744073709551615))
  fwd : ∀ (i : Nat) (s : Sl), S[i]? = some s → s.set = true → ∃ t ∈ L, t.gone = false ∧ t.n = s.n ∧ t.gen = s.gen ∧ t.own = (i : Int) ∧ t.tm = s.at_
  bck : ∀ t ∈ L, t.gone = false → ∃ (i : Nat) (s : Sl), t.own = (i : Int) ∧ S[i]? = some s ∧ s.set = true ∧ s.n = t.n ∧ s.gen = t.gen ∧ s.at_ = t.tm
  small : ∀ (i : Nat) (s : Sl), S[i]? = some s → s.n ≤ 1000000000 ∧ s.gen ≤ 9000000000000000000
theorem rmL_mem {L : List Tm} {k : Nat} {t : Tm} (h : t ∈ rmL L k) (hg : t.gone = false) : t ∈ L ∧ t.n ≠ k := by
  obtain ⟨u, hu, rfl⟩ := List.mem_map.1 h
  rw [rm1_gone, Bool.or_eq_false_iff] at hg
  have hne : u.n ≠ k := of_decide_eq_false hg.2
  have e : rm1 k u = u := by unfold rm1; rw [if_neg (fun q => hne q.2)]
  rw [e]; exact ⟨hu, hne⟩
theorem mem_rm {L : List Tm} {k : Nat} {t : Tm} (h : t ∈ L) (hn : t.n ≠ k) : t ∈ rmL L k :=
  List.mem_map.2 ⟨t, h, by unfold rm1; rw [if_neg (fun q => hn q.2)]⟩
theorem TRel.same {L : List Tm} {gv : List Nat} {n : Nat} (r : TRel L gv n) {a b : Tm} (ha : a ∈ L) (hb : b ∈ L) (h1 : a.gone = false) (h2 : b.gone = false) (h : a.n = b.n) : a = b := by
  obtain ⟨i, hi⟩ := List.getElem?_of_mem ha
  obtain ⟨j, hj⟩ := List.getElem?_of_mem hb
  obtain rfl := r.liveN hi hj h1 h2 h
  rw [hi] at hj
  exact Option.some.inj hj
/-- The timers without that of a place. -/
structure Cut (L L1 : List Tm) (i : Nat) : Prop where
  a : ∀ t ∈ L1, t.gone = false → t ∈ L ∧ t.own ≠ (i : Int)
  b : ∀ t ∈ L, t.gone = false → t.own ≠ (i : Int) → t ∈ L1
section
variable {f : Nat → Nat} {now : Nat} {L : List Tm} {S : List Sl} {gv : List Nat} {n : Nat}
theorem DRel.cut (h : DRel f now L S) (r : TRel L gv n) {i : Nat} {s : Sl} (hs : S[i]? = some s) {t : Tm} (ht : t ∈ L) (hg : t.gone = false) (hn : t.n = s.n) (ho : t.own = (i : Int)) : Cut L (rmL L t.n) i := by
  refine ⟨fun u hu hug => ?_, fun u hu hug hne => ?_⟩
  · obtain ⟨h1, h2⟩ := rmL_mem hu hug
    refine ⟨h1, fun e => h2 ?_⟩
    obtain ⟨j, s2, q1, q2, _, q4, _⟩ := h.bck u h1 hug
    obtain rfl : i = j := by omega
    rw [hs] at q2
    obtain rfl := Option.some.inj q2
    rw [← q4, hn]
  · refine mem_rm hu fun e => hne ?_
    rw [r.same hu ht hug hg e]; exact ho
theorem DRel.cut0 (h : DRel f now L S) {i : Nat} {s : Sl} (hs : S[i]? = some s) (h0 : s.set = false) : Cut L L i := by
  refine ⟨fun u hu hug => ⟨hu, fun e => ?_⟩, fun u hu _ _ => hu⟩
  obtain ⟨j, s2, q1, q2, q3, _⟩ := h.bck u hu hug
  obtain rfl : i = j := by omega
  rw [hs] at q2
  obtain rfl := Option.some.inj q2
  rw [h0] at q3; cases q3
theorem set_get {S : List Sl} {i j : Nat} {x s : Sl} (h : (S.set i x)[j]? = some s) : (i = j ∧ s = x ∧ i < S.length) ∨ (i ≠ j ∧ S[j]? = some s) := by
  rw [List.getElem?_set] at h
  by_cases e : i = j
  · rw [if_pos e] at h
    by_cases hl : i < S.length
    · rw [if_pos hl] at h; exact .inl ⟨e, (Option.some.inj h).symm, hl⟩
    · rw [if_neg hl] at h; cases h
  · rw [if_neg e] at h; exact .inr ⟨e, h⟩
theorem set_ne {S : List Sl} {i j : Nat} {x s : Sl} (e : i ≠ j) (h : S[j]? = some s) : (S.set i x)[j]? = some s := by rw [List.getElem?_set, if_neg e]; exact h
theorem set_eq {S : List Sl} {i : Nat} {x s : Sl} (h : S[i]? = some s) : (S.set i x)[i]? = some x := by rw [List.getElem?_set, if_pos rfl, if_pos (List.getElem?_eq_some_iff.1 h).1]
theorem DRel.off (h : DRel f now L S) {i : Nat} {s : Sl} (hs : S[i]? = some s) {L1 : List Tm} (hc : Cut L L1 i) {k : Nat} (hk : k ≤ 18446744073709551615) (hn : ¬ (now < k ∧ k < 18446744073709551615)) : DRel (updF f i k) now L1 (S.set i ⟨k, false, 0, 0⟩) := by
  refine ⟨h.nv, by rw [List.length_set]; exact h.len, fun j x hx => ?_, fun j x hx => ?_, fun j x hx hxs => ?_, fun t ht hg => ?_, fun j x hx => ?_⟩
  · rcases set_get hx with ⟨rfl, rfl, _⟩ | ⟨e, hx⟩
    · rw [updF_self]; exact ⟨rfl, hk⟩
    · rw [updF_ne f k (Ne.symm e)]; exact h.at_ j x hx
  · rcases set_get hx with ⟨rfl, rfl, _⟩ | ⟨e, hx⟩
    · rw [updF_self]; exact ⟨fun q => (by cases q), fun q => absurd q hn⟩
    · rw [updF_ne f k (Ne.symm e)]; exact h.set_ j x hx
  · rcases set_get hx with ⟨rfl, rfl, _⟩ | ⟨e, hx⟩
    · cases hxs
    · obtain ⟨t, q1, q2, q3, q4, q5, q6⟩ := h.fwd j x hx hxs
      exact ⟨t, hc.b t q1 q2 (by rw [q5]; omega), q2, q3, q4, q5, q6⟩
  · obtain ⟨q1, q2⟩ := hc.a t ht hg
    obtain ⟨j, x, q3, q4, q5⟩ := h.bck t q1 hg
    exact ⟨j, x, q3, set_ne (fun e => q2 (by rw [q3, e])) q4, q5⟩
  · rcases set_get hx with ⟨rfl, rfl, _⟩ | ⟨e, hx⟩
    · exact ⟨Nat.zero_le _, Nat.zero_le _⟩
    · exact h.small j x hx
theorem DRel.on (h : DRel f now L S) {i : Nat} {s : Sl} (hs : S[i]? = some s) {L1 : List Tm} (hc : Cut L L1 i) {k : Nat} (h1 : now < k) (h2 : k < 18446744073709551615) (a g q : Nat) (ha : a ≤ 1000000000) (hg9 : g ≤ 9000000000000000000) : DRel (updF f i k) now (L1 ++ [⟨a, g, (i : Int), k, false, q⟩]) (S.set i ⟨k, true, a, g⟩) := by
  refine ⟨h.nv, by rw [List.length_set]; exact h.len, fun j x hx => ?_, fun j x hx => ?_, fun j x hx hxs => ?_, fun t ht hg => ?_, fun j x hx => ?_⟩
  · rcases set_get hx with ⟨rfl, rfl, _⟩ | ⟨e, hx⟩
    · rw [updF_self]; exact ⟨rfl, by omega⟩
    · rw [updF_ne f k (Ne.symm e)]; exact h.at_ j x hx
  · rcases set_get hx with ⟨rfl, rfl, _⟩ | ⟨e, hx⟩
    · rw [updF_self]; exact ⟨fun _ => ⟨h1, h2⟩, fun _ => rfl⟩
    · rw [updF_ne f k (Ne.symm e)]; exact h.set_ j x hx
  · rcases set_get hx with ⟨rfl, rfl, _⟩ | ⟨e, hx⟩
    · exact ⟨_, List.mem_append_right _ (List.mem_singleton.2 rfl), rfl, rfl, rfl, rfl, rfl⟩
    · obtain ⟨t, q1, q2, q3, q4, q5, q6⟩ := h.fwd j x hx hxs
      exact ⟨t, List.mem_append_left _ (hc.b t q1 q2 (by rw [q5]; omega)), q2, q3, q4, q5, q6⟩
  · rcases List.mem_append.1 ht with ht | ht
    · obtain ⟨q1, q2⟩ := hc.a t ht hg
      obtain ⟨j, x, q3, q4, q5⟩ := h.bck t q1 hg
      exact ⟨j, x, q3, set_ne (fun e => q2 (by rw [q3, e])) q4, q5⟩
    · rw [List.mem_singleton] at ht
      subst ht
      exact ⟨i, _, rfl, set_eq hs, rfl, rfl, rfl, rfl⟩
  · rcases set_get hx with ⟨rfl, rfl, _⟩ | ⟨e, hx⟩
    · exact ⟨ha, hg9⟩
    · exact h.small j x hx
theorem live_nodup (r : TRel L gv n) : (live L).Pairwise (fun a b => a.n ≠ b.n) := by
  rw [List.pairwise_iff_getElem]
  intro i j hi hj hij e
  obtain ⟨m1, g1⟩ := mem_live.1 (List.getElem_mem hi)
  obtain ⟨m2, g2⟩ := mem_live.1 (List.getElem_mem hj)
  have e1 := r.same m1 m2 g1 g2 e
  have hs : (live L).Pairwise (fun a b => a.sq < b.sq) := (r.inc.imp fun {a b} q => q.1).filter _
  have := List.pairwise_iff_getElem.1 hs i j hi hj hij
  rw [e1] at this; omega
theorem DRel.few (h : DRel f now L S) (r : TRel L gv n) : (live L).length ≤ 256 := by
  have hnd : ((live L).map (fun t => t.own.toNat)).Nodup := by
    rw [List.Nodup, List.pairwise_map]
    refine (List.Pairwise.and_mem.1 (live_nodup r)).imp fun {a b} ⟨ha, hb, hne⟩ e => hne ?_
    obtain ⟨m1, g1⟩ := mem_live.1 ha
    obtain ⟨m2, g2⟩ := mem_live.1 hb
    obtain ⟨i, s1, q1, q2, _, q4, _⟩ := h.bck a m1 g1
    obtain ⟨j, s2, p1, p2, _, p4, _⟩ := h.bck b m2 g2
    obtain rfl : i = j := by omega
    rw [q2] at p2
    obtain rfl := Option.some.inj p2
    rw [← q4, p4]
  have := List.Nodup.length_le_of_subset hnd (l₂ := List.range 256) fun x hx => by
    obtain ⟨t, ht, rfl⟩ := List.mem_map.1 hx
    obtain ⟨m1, g1⟩ := mem_live.1 ht
    obtain ⟨i, s1, q1, q2, _⟩ := h.bck t m1 g1
    have := (List.getElem?_eq_some_iff.1 q2).1
    rw [h.len] at this
    rw [List.mem_range]; omega
  rw [List.length_map, List.length_range] at this; exact this
/-! what expires -/
structure Exps (to : Nat) (L : List Tm) (z : List Tm × List Tm) : Prop where
  keep : ∀ t, (t ∈ z.1 ∧ t.gone = false) ↔ (t ∈ L ∧ t.gone = false ∧ to < t.tm)
  out : ∀ t, t ∈ z.2 ↔ (t ∈ L ∧ t.gone = false ∧ t.tm ≤ to)
  nd : z.2.Pairwise (fun a b => a.n ≠ b.n)
theorem eL_exps (r : TRel L gv n) (to : Nat) : Exps to L (eL to L) := by
  refine eL_ind (now := to) (motive := fun L z => Exps to L z) (fun L h => ?_) (fun L i t h hlt => ?_) (fun L gv n i t z r h hle ih => ?_) (live L).length L gv n r rfl
  · have hn := fstP_none.1 h
    exact ⟨fun t => ⟨fun q => (by have := hn t q.1; rw [q.2] at this; cases this), fun q => ⟨q.1, q.2.1⟩⟩, fun t => ⟨fun q => (by cases q), fun q => (by have := hn t q.1; rw [q.2.1] at this; cases this)⟩, .nil⟩
  · have hf := fstP_some h
    have hall : ∀ u ∈ L, u.gone = false → to < u.tm := fun u hu hg => by
      obtain ⟨j, hj⟩ := List.getElem?_of_mem hu
      have := hf.min j u hj hg; omega
    exact ⟨fun u => ⟨fun q => ⟨q.1, q.2, hall u q.1 q.2⟩, fun q => ⟨q.1, q.2.1⟩⟩, fun u => ⟨fun q => (by cases q), fun q => (by have := hall u q.1 q.2.1; omega)⟩, .nil⟩
  · have hf := fstP_some h
    have hm := List.mem_of_getElem? hf.at_
    refine ⟨fun u => ?_, fun u => ?_, ?_⟩
    · rw [show ((z.1, t :: z.2) : List Tm × List Tm).1 = z.1 from rfl, ih.keep u]
      constructor
      · rintro ⟨q1, q2, q3⟩
        exact ⟨(rmL_mem q1 q2).1, q2, q3⟩
      · rintro ⟨q1, q2, q3⟩
        refine ⟨mem_rm q1 fun e => ?_, q2, q3⟩
        have := r.same q1 hm q2 hf.g e
        subst this; omega
    · rw [show ((z.1, t :: z.2) : List Tm × List Tm).2 = t :: z.2 from rfl, List.mem_cons, ih.out u]
      constructor
      · rintro (rfl | ⟨q1, q2, q3⟩)
        · exact ⟨hm, hf.g, hle⟩
        · exact ⟨(rmL_mem q1 q2).1, q2, q3⟩
      · rintro ⟨q1, q2, q3⟩
        by_cases e : u.n = t.n
        · exact .inl (r.same q1 hm q2 hf.g e)
        · exact .inr ⟨mem_rm q1 e, q2, q3⟩
    · refine List.pairwise_cons.2 ⟨fun u hu e => ?_, ih.nd⟩
      obtain ⟨q1, q2, _⟩ := (ih.out u).1 hu
      exact (rmL_mem q1 q2).2 e.symm
/-- The slots of what has expired are set no more. -/
structure Clr (S S' : List Sl) (pre : List Tm) : Prop where
  len : S'.length = S.length
  get : ∀ (i : Nat) (s : Sl), S[i]? = some s → S'[i]? = some (if pre.any (fun t => decide (t.own = (i : Int))) = true then { s with set := false } else s)
theorem Clr.nil (S : List Sl) : Clr S S [] := ⟨rfl, fun i s h => by simpa using h⟩
theorem Clr.snoc {S S' : List Sl} {pre : List Tm} (h : Clr S S' pre) {t : Tm} {j : Nat} (hj : t.own = (j : Int)) {s' : Sl} (hs : S'[j]? = some s') : Clr S (S'.set j { s' with set := false }) (pre ++ [t]) := by
  refine ⟨by rw [List.length_set]; exact h.len, fun i s hi => ?_⟩
  have := h.get i s hi
  rw [List.getElem?_set, List.any_append]
  by_cases e : j = i
  · subst e
    rw [if_pos rfl, if_pos (List.getElem?_eq_some_iff.1 hs).1]
    rw [hs] at this
    have e2 := Option.some.inj this
    rw [e2]
    simp only [List.any_cons, List.any_nil, hj, decide_true, Bool.or_false, Bool.or_true, if_true]
    split <;> rfl
  · rw [if_neg e, this]
    have e2 : ¬ t.own = (i : Int) := by rw [hj]; omega
    simp [e2]
theorem any_own {pre : List Tm} {i : Nat} : pre.any (fun t => decide (t.own = (i : Int))) = true ↔ ∃ t ∈ pre, t.own = (i : Int) := by simp [List.any_eq_true]
theorem DRel.adv (h : DRel f now L S) (r : TRel L gv n) {to : Nat} (h1 : now ≤ to) (h2 : to < 18446744073709551615) {S' : List Sl} (hc : Clr S S' (eL to L).2) : DRel f to (eL to L).1 S' := by
  have hx := eL_exps r to
  have hget : ∀ (i : Nat) (s' : Sl), S'[i]? = some s' → ∃ s, S[i]? = some s ∧ s' = (if (eL to L).2.any (fun t => decide (t.own = (i : Int))) = true then { s with set := false } else s) := fun i s' hi => by
    have hl := (List.getElem?_eq_some_iff.1 hi).1
    rw [hc.len] at hl
    have hs := List.getElem?_eq_getElem hl
    have := hc.get i _ hs
    rw [hi] at this
    exact ⟨_, hs, Option.some.inj this⟩
  have hexp : ∀ (i : Nat) (s : Sl) (t : Tm), S[i]? = some s → t ∈ L → t.gone = false → t.own = (i : Int) → s.set = true ∧ s.n = t.n ∧ s.gen = t.gen ∧ s.at_ = t.tm := fun i s t hs ht hg ho => by
    obtain ⟨j, s2, q1, q2, q3⟩ := h.bck t ht hg
    obtain rfl : i = j := by omega
    rw [hs] at q2
    obtain rfl := Option.some.inj q2
    exact q3
  refine ⟨h2, by rw [hc.len]; exact h.len, fun i s' hs' => ?_, fun i s' hs' => ?_, fun i s' hs' hset => ?_, fun t ht hg => ?_, fun i s' hs' => ?_⟩
  · obtain ⟨s, hs, rfl⟩ := hget i s' hs'
    have := h.at_ i s hs
    split <;> exact this
  · obtain ⟨s, hs, rfl⟩ := hget i s' hs'
    have ha := h.at_ i s hs
    have hb := h.set_ i s hs
    by_cases e : (eL to L).2.any (fun t => decide (t.own = (i : Int))) = true
    · rw [if_pos e]
      obtain ⟨t, ht, ho⟩ := any_own.1 e
      obtain ⟨q1, q2, q3⟩ := (hx.out t).1 ht
      have := hexp i s t hs q1 q2 ho
      exact ⟨fun q => (by cases q), fun q => by omega⟩
    · rw [if_neg e, hb]
      refine ⟨fun q => ⟨?_, q.2⟩, fun q => ⟨by omega, q.2⟩⟩
      obtain ⟨t, q1, q2, q3, q4, q5, q6⟩ := h.fwd i s hs (hb.2 q)
      rcases Nat.lt_or_ge to t.tm with h9 | h9
      · omega
      · exact absurd (any_own.2 ⟨t, (hx.out t).2 ⟨q1, q2, h9⟩, q5⟩) e
  · obtain ⟨s, hs, rfl⟩ := hget i s' hs'
    by_cases e : (eL to L).2.any (fun t => decide (t.own = (i : Int))) = true
    · rw [if_pos e] at hset; cases hset
    · rw [if_neg e] at hset ⊢
      obtain ⟨t, q1, q2, q3, q4, q5, q6⟩ := h.fwd i s hs hset
      refine ⟨t, ?_, q2, q3, q4, q5, q6⟩
      rcases Nat.lt_or_ge to t.tm with h9 | h9
      · exact ((hx.keep t).2 ⟨q1, q2, h9⟩).1
      · exact absurd (any_own.2 ⟨t, (hx.out t).2 ⟨q1, q2, h9⟩, q5⟩) e
  · obtain ⟨q1, _, q3⟩ := (hx.keep t).1 ⟨ht, hg⟩
    obtain ⟨i, s, p1, p2, p3, p4, p5, p6⟩ := h.bck t q1 hg
    refine ⟨i, s, p1, ?_, p3, p4, p5, p6⟩
    rw [hc.get i s p2]
    congr 1
    split
    · rename_i e
      obtain ⟨u, hu, ho⟩ := any_own.1 e
      obtain ⟨u1, u2, u3⟩ := (hx.out u).1 hu
      have := hexp i s u p2 u1 u2 ho
      have := r.same u1 q1 u2 hg (by omega)
      subst this; omega
    · rfl
  · obtain ⟨s, hs, rfl⟩ := hget i s' hs'
    have := h.small i s hs
    split <;> exact this
/-! lapses -/
structure Lp where
  fd : Int
  dir : Int
  at_ : Nat
abbrev encLp (x : Lp) : List Value := [.int .i64 x.fd, .int .i64 x.dir, .int .u64 (x.at_ : Int)]
theorem encLp3 (x : Lp) : (encLp x).length = 3 := rfl
def lpI (f : Nat → Nat) (i : Nat) : Lp := ⟨((i / 2 : Nat) : Int), ((i % 2 : Nat) : Int), f i⟩
def lpT (t : Tm) : Lp := ⟨((t.own.toNat / 2 : Nat) : Int), ((t.own.toNat % 2 : Nat) : Int), t.tm⟩
def lpLt (a b : Lp) : Prop := a.at_ < b.at_ ∨ (a.at_ = b.at_ ∧ (a.fd < b.fd ∨ (a.fd = b.fd ∧ a.dir < b.dir)))
instance (a b : Lp) : Decidable (lpLt a b) := inferInstanceAs (Decidable (_ ∨ _))
theorem lp_irrefl (a : Lp) : ¬ lpLt a a := by unfold lpLt; omega
theorem lp_asymm {a b : Lp} (h1 : lpLt a b) (h2 : lpLt b a) : False := by unfold lpLt at *; omega
theorem lp_trans {a b c : Lp} (h1 : lpLt a b) (h2 : lpLt b c) : lpLt a c := by unfold lpLt at *; omega
theorem lp_tot {a b : Lp} (h1 : ¬ lpLt a b) (h2 : ¬ lpLt b a) : a = b := by
  obtain ⟨a1, a2, a3⟩ := a
  obtain ⟨b1, b2, b3⟩ := b
  unfold lpLt at h1 h2
  dsimp only at h1 h2
  obtain rfl : a1 = b1 := by omega
  obtain rfl : a2 = b2 := by omega
  obtain rfl : a3 = b3 := by omega
  rfl
theorem sorted_one : ∀ {A B : List Lp}, A.Pairwise lpLt → B.Pairwise lpLt → (∀ x, x ∈ A ↔ x ∈ B) → A = B
  | [], [], _, _, _ => rfl
  | [], b :: B, _, _, h => by have := (h b).2 (List.mem_cons_self ..); cases this
  | a :: A, [], _, _, h => by have := (h a).1 (List.mem_cons_self ..); cases this
  | a :: A, b :: B, ha, hb, h => by
    obtain ⟨a1, a2⟩ := List.pairwise_cons.1 ha
    obtain ⟨b1, b2⟩ := List.pairwise_cons.1 hb
    have e : a = b := by
      rcases List.mem_cons.1 ((h a).1 (List.mem_cons_self ..)) with e | m1
      · exact e
      · rcases List.mem_cons.1 ((h b).2 (List.mem_cons_self ..)) with e | m2
        · exact e.symm
        · exact (lp_asymm (a1 b m2) (b1 a m1)).elim
    subst e
    rw [sorted_one a2 b2 fun x => ?_]
    constructor
    · intro hx
      rcases List.mem_cons.1 ((h x).1 (List.mem_cons_of_mem _ hx)) with e | m
      · subst e; exact absurd (a1 x hx) (lp_irrefl x)
      · exact m
    · intro hx
      rcases List.mem_cons.1 ((h x).2 (List.mem_cons_of_mem _ hx)) with e | m
      · subst e; exact absurd (b1 x hx) (lp_irrefl x)
      · exact m
/-- What passes, in order. -/
structure IsLap (f : Nat → Nat) (now to : Nat) (l : List Lp) : Prop where
  ord : l.Pairwise lpLt
  mem : ∀ x, x ∈ l ↔ ∃ i : Nat, i < 256 ∧ now < f i ∧ f i ≤ to ∧ x = lpI f i
theorem IsLap.one {to : Nat} {A B : List Lp} (ha : IsLap f now to A) (hb : IsLap f now to B) : A = B := sorted_one ha.ord hb.ord fun x => (ha.mem x).trans (hb.mem x).symm
theorem DRel.lpT (h : DRel f now L S) {t : Tm} (ht : t ∈ L) (hg : t.gone = false) : ∃ i : Nat, i < 256 ∧ t.own = (i : Int) ∧ t.tm = f i ∧ now < f i ∧ f i < 18446744073709551615 ∧ Go.Proofs.YtbkdebnkoidicaaGreat.lpT t = lpI f i := by
  obtain ⟨i, s, q1, q2, q3, q4, q5, q6⟩ := h.bck t ht hg
  have hl := (List.getElem?_eq_some_iff.1 q2).1
  rw [h.len] at hl
  have ha := h.at_ i s q2
  have hb := (h.set_ i s q2).1 q3
  refine ⟨i, hl, q1, by omega, hb.1, hb.2, ?_⟩
  unfold Go.Proofs.YtbkdebnkoidicaaGreat.lpT lpI
  rw [q1, Int.toNat_natCast, show t.tm = f i from by omega]
theorem DRel.laps (h : DRel f now L S) (r : TRel L gv n) {to : Nat} (h2 : to < 18446744073709551615) {l : List Lp} (hp : l.Perm ((eL to L).2.map Go.Proofs.YtbkdebnkoidicaaGreat.lpT)) (hs : l.Pairwise (fun a b => ¬ lpLt b a)) : IsLap f now to l := by
  have hx := eL_exps r to
  have hnd : ((eL to L).2.map Go.Proofs.YtbkdebnkoidicaaGreat.lpT).Nodup := by
    rw [List.Nodup, List.pairwise_map]
    refine (List.Pairwise.and_mem.1 hx.nd).imp fun {a b} ⟨ha, hb, hne⟩ e => hne ?_
    obtain ⟨a1, a2, _⟩ := (hx.out a).1 ha
    obtain ⟨b1, b2, _⟩ := (hx.out b).1 hb
    obtain ⟨i, s1, q1, q2, _, q4, _⟩ := h.bck a a1 a2
    obtain ⟨j, s2, p1, p2, _, p4, _⟩ := h.bck b b1 b2
    have : i = j := by
      have e1 := congrArg Lp.fd e
      have e2 := congrArg Lp.dir e
      unfold Go.Proofs.YtbkdebnkoidicaaGreat.lpT at e1 e2
      dsimp only at e1 e2
      rw [q1, p1, Int.toNat_natCast, Int.toNat_natCast] at e1 e2
      omega
    subst this
    rw [q2] at p2
    obtain rfl := Option.some.inj p2
    rw [← q4, p4]
  refine ⟨?_, fun x => ?_⟩
  · have hn2 : l.Pairwise (fun a b => a ≠ b) := hp.nodup_iff.2 hnd
    refine (List.pairwise_and_iff.2 ⟨hs, hn2⟩).imp fun {a b} ⟨h3, h4⟩ => ?_
    by_cases e : lpLt a b
    · exact e
    · exact absurd (lp_tot e h3) h4
  · rw [hp.mem_iff, List.mem_map]
    constructor
    · rintro ⟨t, ht, rfl⟩
      obtain ⟨q1, q2, q3⟩ := (hx.out t).1 ht
      obtain ⟨i, hi, p1, p2, p3, p4, p5⟩ := h.lpT q1 q2
      exact ⟨i, hi, p3, by omega, p5⟩
    · rintro ⟨i, hi, q1, q2, rfl⟩
      have hs2 := List.getElem?_eq_getElem (show i < S.length by rw [h.len]; exact hi)
      obtain ⟨t, p1, p2, p3, p4, p5, p6⟩ := h.fwd i _ hs2 ((h.set_ i _ hs2).2 ⟨q1, by omega⟩)
      have ha := h.at_ i _ hs2
      refine ⟨t, (hx.out t).2 ⟨p1, p2, by omega⟩, ?_⟩
      unfold Go.Proofs.YtbkdebnkoidicaaGreat.lpT lpI
      rw [p5, Int.toNat_natCast, p6, ha.1]
/-! the next one -/
structure IsNx (f : Nat → Nat) (now k : Nat) : Prop where
  le : k ≤ 18446744073709551615 ∧ ∀ i, i < 256 → now < f i → k ≤ f i ∨ 18446744073709551615 ≤ f i
  is_ : k = 18446744073709551615 ∨ ∃ i : Nat, i < 256 ∧ now < f i ∧ f i = k ∧ k < 18446744073709551615
theorem IsNx.one {a b : Nat} (ha : IsNx f now a) (hb : IsNx f now b) : a = b := by
  have h1 := ha.le.1
  have h2 := hb.le.1
  rcases ha.is_ with e | ⟨i, i1, i2, i3, i4⟩ <;> rcases hb.is_ with q | ⟨j, j1, j2, j3, j4⟩
  · omega
  · have := ha.le.2 j j1 j2; omega
  · have := hb.le.2 i i1 i2; omega
  · have := ha.le.2 j j1 j2
    have := hb.le.2 i i1 i2
    omega
theorem DRel.next (h : DRel f now L S) : IsNx f now (nxtL L) := by
  have hall : ∀ i, i < 256 → now < f i → f i < 18446744073709551615 → ∃ t ∈ L, t.gone = false ∧ t.tm = f i := fun i hi h1 h2 => by
    have hs2 := List.getElem?_eq_getElem (show i < S.length by rw [h.len]; exact hi)
    obtain ⟨t, p1, p2, p3, p4, p5, p6⟩ := h.fwd i _ hs2 ((h.set_ i _ hs2).2 ⟨h1, h2⟩)
    have ha := h.at_ i _ hs2
    exact ⟨t, p1, p2, by rw [p6, ha.1]⟩
  unfold nxtL
  cases hf : fstP L with
  | none =>
    have hn := fstP_none.1 hf
    refine ⟨⟨Nat.le_refl _, fun i hi h1 => .inr ?_⟩, .inl rfl⟩
    rcases Nat.lt_or_ge (f i) 18446744073709551615 with h2 | h2
    · obtain ⟨t, p1, p2, _⟩ := hall i hi h1 h2
      have := hn t p1
      rw [p2] at this; cases this
    · exact h2
  | some z =>
    obtain ⟨j, t⟩ := z
    have hs := fstP_some hf
    obtain ⟨i, hi, q1, q2, q3, q4, _⟩ := h.lpT (List.mem_of_getElem? hs.at_) hs.g
    refine ⟨⟨by dsimp only; omega, fun i2 hi2 h1 => ?_⟩, .inr ⟨i, hi, q3, q2.symm, by dsimp only; omega⟩⟩
    rcases Nat.lt_or_ge (f i2) 18446744073709551615 with h2 | h2
    · obtain ⟨u, p1, p2, p3⟩ := hall i2 hi2 h1 h2
      obtain ⟨k, hk⟩ := List.getElem?_of_mem p1
      have := hs.min k u hk p2
      dsimp only; omega
    · exact .inr h2
/-- No deadlines. -/
theorem DRel.new {now : Nat} (h : now < 18446744073709551615) : DRel (fun _ => 18446744073709551615) now [] (List.replicate 256 ⟨18446744073709551615, false, 0, 0⟩) := by
  have hg : ∀ (i : Nat) (s : Sl), (List.replicate 256 (⟨18446744073709551615, false, 0, 0⟩ : Sl))[i]? = some s → s = ⟨18446744073709551615, false, 0, 0⟩ := fun i s hs => List.eq_of_mem_replicate (List.mem_of_getElem? hs)
  refine ⟨h, List.length_replicate, fun i s hs => by rw [hg i s hs]; exact ⟨rfl, Nat.le_refl _⟩, fun i s hs => ?_, fun i s hs hset => ?_, fun t ht => (by cases ht), fun i s hs => ?_⟩
  · rw [hg i s hs]
    exact ⟨fun q => (by cases q), fun q => by omega⟩
  · rw [hg i s hs] at hset; cases hset
  · rw [hg i s hs]; exact ⟨Nat.zero_le _, Nat.zero_le _⟩
end
end Go.Proofs.YtbkdebnkoidicaaGreat
end
section
set_option linter.unusedVariables false
set_option maxRecDepth 20000
namespace Go.Proofs.YtbkdebnkoidicaaGreat
def cmpI (a b : Int) : Int := if a < b then -1 else if b < a then 1 else 0
def orL (l : List Int) : Int := (l.find? (fun x => decide (x ≠ 0))).getD 0
theorem orL_at : ∀ {l : List Int} {j : Nat} {x : Int}, l[j]? = some x → x ≠ 0 → (∀ (i : Nat) (y : Int), i < j → l[i]? = some y → y = 0) → orL l = x
  | [], j, x, h, _, _ => by cases h
  | a :: l, 0, x, h, hx, _ => by
    obtain rfl : a = x := by simpa using h
    simp [orL, hx]
  | a :: l, j + 1, x, h, hx, hz => by
    have ha : a = 0 := hz 0 a (Nat.succ_pos _) rfl
    have ih := orL_at (l := l) (j := j) (x := x) (by simpa using h) hx (fun i y hi hy => hz (i + 1) y (by omega) (by simpa using hy))
    rw [← ih, ha]; simp [orL]
theorem orL_none : ∀ {l : List Int}, (∀ (i : Nat) (y : Int), l[i]? = some y → y = 0) → orL l = 0
  | [], _ => rfl
  | a :: l, h => by
    have ha : a = 0 := h 0 a rfl
    have ih := orL_none (l := l) (fun i y hy => h (i + 1) y (by simpa using hy))
    rw [← ih, ha]; simp [orL]
theorem nani_ok (a : Int) : Spec Tryz.prog 189 [.int .i64 a] [] (fun r H' => r = .bool false ∧ H' = []) := by
  refine Spec.of (E := [(0, .int .i64 a)]) Tryz.func189 rfl (by kernel_rfl) Tryz.ntmps189 rfl rfl (fun w => ?_)
  refine WC_seq ?_
  refine WC_region ?_
  refine WL_val rfl rfl rfl (R_assign rfl rfl) ?_
  refine WL_nil ?_
  refine WQ_code ?_
  refine WC_seq ?_
  refine WC_region ?_
  refine WL_val rfl rfl rfl (R_move rfl rfl) ?_
  refine WL_val rfl rfl rfl (R_move rfl rfl) ?_
  refine WL_val rfl rfl rfl (R_neq rfl rfl rfl) ?_
  refine WL_set (s := 5) (v := .bool false) rfl (by simp) ?_
  refine WL_val rfl rfl rfl (R_assign rfl rfl) ?_
  refine WL_nil ?_
  refine WQ_code ?_
  refine WC_ret ?_
  refine WQ_ret rfl rfl (.cons (.tmp rfl) .nil) rfl (by
      exact ⟨rfl, rfl⟩) (pqY)
theorem nant_ok (a : Int) : Spec Tryz.prog 158 [.int .u64 a] [] (fun r H' => r = .bool false ∧ H' = []) := by
  refine Spec.of (E := [(0, .int .u64 a)]) Tryz.func158 rfl (by kernel_rfl) Tryz.ntmps158 rfl rfl (fun w => ?_)
  refine WC_seq ?_
  refine WC_region ?_
  refine WL_val rfl rfl rfl (R_assign rfl rfl) ?_
  refine WL_nil ?_
  refine WQ_code ?_
  refine WC_seq ?_
  refine WC_region ?_
  refine WL_val rfl rfl rfl (R_move rfl rfl) ?_
  refine WL_val rfl rfl rfl (R_move rfl rfl) ?_
  refine WL_val rfl rfl rfl (R_neq rfl rfl rfl) ?_
  refine WL_set (s := 5) (v := .bool false) rfl (by simp) ?_
  refine WL_val rfl rfl rfl (R_assign rfl rfl) ?_
  refine WL_nil ?_
  refine WQ_code ?_
  refine WC_ret ?_
  refine WQ_ret rfl rfl (.cons (.tmp rfl) .nil) rfl (by
      exact ⟨rfl, rfl⟩) (pqY)
theorem cmpi_ok (a b : Int) : Spec Tryz.prog 155 [.int .i64 a, .int .i64 b] [] (fun r H' => r = .int .i64 (cmpI a b) ∧ H' = []) := by
  refine Spec.of (E := [(0, .int .i64 a), (1, .int .i64 b)]) Tryz.func155 rfl (by kernel_rfl) Tryz.ntmps155 rfl rfl (fun w => ?_)
  refine WC_seq ?_
  refine WC_region ?_
  refine WL_val rfl rfl rfl (R_assign rfl rfl) ?_
  refine WL_nil ?_
  refine WQ_code ?_
  refine WC_seq ?_
  refine WC_region ?_
  refine WL_val rfl rfl rfl (R_move rfl rfl) ?_
  refine WL_do rfl rfl rfl (D_call (nani_ok _) rfl rfl rfl rfl (pqY)) ?_
  rintro _ _ ⟨_, ⟨rfl, rfl⟩, rfl⟩
  refine WL_val rfl rfl rfl (R_assign rfl rfl) ?_
  refine WL_nil ?_
  refine WQ_code ?_
  refine WC_seq ?_
  refine WC_region ?_
  refine WL_val rfl rfl rfl (R_move rfl rfl) ?_
  refine WL_do rfl rfl rfl (D_call (nani_ok _) rfl rfl rfl rfl (pqY)) ?_
  rintro _ _ ⟨_, ⟨rfl, rfl⟩, rfl⟩
  refine WL_val rfl rfl rfl (R_assign rfl rfl) ?_
  refine WL_nil ?_
  refine WQ_code ?_
  refine WC_seq ?_
  refine WC_seq ?_
  refine WC_region ?_
  refine WL_val rfl rfl rfl (R_move rfl rfl) ?_
  refine WL_nil ?_
  refine WQ_code ?_
  refine WC_F rfl ?_
  refine WC_skip ?_
  refine WQ_code ?_
  refine WC_seq ?_
  refine WC_seq ?_
  refine WC_region ?_
  refine WL_val rfl rfl rfl (R_move rfl rfl) ?_
  refine WL_nil ?_
  refine WQ_code ?_
  refine WC_F rfl ?_
  refine WC_skip ?_
  refine WQ_code ?_
  refine WC_seq ?_
  refine WC_seq ?_
  refine WC_region ?_
  refine WL_val rfl rfl rfl (R_move rfl rfl) ?_
  refine WL_val rfl rfl rfl (R_move rfl rfl) ?_
  refine WL_val rfl rfl rfl (R_lss rfl rfl rfl) ?_
  refine WL_nil ?_
  refine WQ_code ?_
  refine WC_dec rfl (fun c1 => ?_) (fun c1 => ?_)
  · refine WC_seq ?_
    refine WC_region ?_
    refine WL_val rfl rfl rfl (R_assign rfl rfl) ?_
    refine WL_nil ?_
    refine WQ_code ?_
    refine WC_ret ?_
    refine WQ_ret rfl rfl (.cons (.tmp rfl) .nil) rfl (by
        exact ⟨congrArg (Value.int .i64) (by unfold cmpI; (repeat split) <;> omega), rfl⟩) (pqY)
  · refine WC_skip ?_
    refine WQ_code ?_
    refine WC_seq ?_
    refine WC_seq ?_
    refine WC_region ?_
    refine WL_val rfl rfl rfl (R_move rfl rfl) ?_
    refine WL_val rfl rfl rfl (R_move rfl rfl) ?_
    refine WL_val rfl rfl rfl (R_gtr rfl rfl rfl) ?_
    refine WL_nil ?_
    refine WQ_code ?_
    refine WC_dec rfl (fun c2 => ?_) (fun c2 => ?_)
    · refine WC_seq ?_
      refine WC_region ?_
      refine WL_val rfl rfl rfl (R_assign rfl rfl) ?_
      refine WL_nil ?_
      refine WQ_code ?_
      refine WC_ret ?_
      refine WQ_ret rfl rfl (.cons (.tmp rfl) .nil) rfl (by
          exact ⟨congrArg (Value.int .i64) (by unfold cmpI; (repeat split) <;> omega), rfl⟩) (pqY)
    · refine WC_skip ?_
      refine WQ_code ?_
      refine WC_seq ?_
      refine WC_region ?_
      refine WL_val rfl rfl rfl (R_assign rfl rfl) ?_
      refine WL_nil ?_
      refine WQ_code ?_
      refine WC_ret ?_
      refine WQ_ret rfl rfl (.cons (.tmp rfl) .nil) rfl (by
          exact ⟨congrArg (Value.int .i64) (by unfold cmpI; (repeat split) <;> omega), rfl⟩) (pqY)
theorem cmpt_ok (a b : Int) : Spec Tryz.prog 110 [.int .u64 a, .int .u64 b] [] (fun r H' => r = .int .i64 (cmpI a b) ∧ H' = []) := by
  refine Spec.of (E := [(0, .int .u64 a), (1, .int .u64 b)]) Tryz.func110 rfl (by kernel_rfl) Tryz.ntmps110 rfl rfl (fun w => ?_)
  refine WC_seq ?_
  refine WC_region ?_
  refine WL_val rfl rfl rfl (R_assign rfl rfl) ?_
  refine WL_nil ?_
  refine WQ_code ?_
  refine WC_seq ?_
  refine WC_region ?_
  refine WL_val rfl rfl rfl (R_move rfl rfl) ?_
  refine WL_do rfl rfl rfl (D_call (nant_ok _) rfl rfl rfl rfl (pqY)) ?_
  rintro _ _ ⟨_, ⟨rfl, rfl⟩, rfl⟩
  refine WL_val rfl rfl rfl (R_assign rfl rfl) ?_
  refine WL_nil ?_
  refine WQ_code ?_
  refine WC_seq ?_
  refine WC_region ?_
  refine WL_val rfl rfl rfl (R_move rfl rfl) ?_
  refine WL_do rfl rfl rfl (D_call (nant_ok _) rfl rfl rfl rfl (pqY)) ?_
  rintro _ _ ⟨_, ⟨rfl, rfl⟩, rfl⟩
  refine WL_val rfl rfl rfl (R_assign rfl rfl) ?_
  refine WL_nil ?_
  refine WQ_code ?_
  refine WC_seq ?_
  refine WC_seq ?_
  refine WC_region ?_
  refine WL_val rfl rfl rfl (R_move rfl rfl) ?_
  refine WL_nil ?_
  refine WQ_code ?_
  refine WC_F rfl ?_
  refine WC_skip ?_
  refine WQ_code ?_
  refine WC_seq ?_
  refine WC_seq ?_
  refine WC_region ?_
  refine WL_val rfl rfl rfl (R_move rfl rfl) ?_
  refine WL_nil ?_
  refine WQ_code ?_
  refine WC_F rfl ?_
  refine WC_skip ?_
  refine WQ_code ?_
  refine WC_seq ?_
  refine WC_seq ?_
  refine WC_region ?_
  refine WL_val rfl rfl rfl (R_move rfl rfl) ?_
  refine WL_val rfl rfl rfl (R_move rfl rfl) ?_
  refine WL_val rfl rfl rfl (R_lss rfl rfl rfl) ?_
  refine WL_nil ?_
  refine WQ_code ?_
  refine WC_dec rfl (fun c1 => ?_) (fun c1 => ?_)
  · refine WC_seq ?_
    refine WC_region ?_
    refine WL_val rfl rfl rfl (R_assign rfl rfl) ?_
    refine WL_nil ?_
    refine WQ_code ?_
    refine WC_ret ?_
    refine WQ_ret rfl rfl (.cons (.tmp rfl) .nil) rfl (by
        exact ⟨congrArg (Value.int .i64) (by unfold cmpI; (repeat split) <;> omega), rfl⟩) (pqY)
  · refine WC_skip ?_
    refine WQ_code ?_
    refine WC_seq ?_
    refine WC_seq ?_
    refine WC_region ?_
    refine WL_val rfl rfl rfl (R_move rfl rfl) ?_
    refine WL_val rfl rfl rfl (R_move rfl rfl) ?_
    refine WL_val rfl rfl rfl (R_gtr rfl rfl rfl) ?_
    refine WL_nil ?_
    refine WQ_code ?_
    refine WC_dec rfl (fun c2 => ?_) (fun c2 => ?_)
    · refine WC_seq ?_
      refine WC_region ?_
      refine WL_val rfl rfl rfl (R_assign rfl rfl) ?_
      refine WL_nil ?_
      refine WQ_code ?_
      refine WC_ret ?_
      refine WQ_ret rfl rfl (.cons (.tmp rfl) .nil) rfl (by
          exact ⟨congrArg (Value.int .i64) (by unfold cmpI; (repeat split) <;> omega), rfl⟩) (pqY)
    · refine WC_skip ?_
      refine WQ_code ?_
      refine WC_seq ?_
      refine WC_region ?_
      refine WL_val rfl rfl rfl (R_assign rfl rfl) ?_
      refine WL_nil ?_
      refine WQ_code ?_
      refine WC_ret ?_
      refine WQ_ret rfl rfl (.cons (.tmp rfl) .nil) rfl (by
          exact ⟨congrArg (Value.int .i64) (by unfold cmpI; (repeat split) <;> omega), rfl⟩) (pqY)
theorem or_ok (b c : Nat) (l : List Int) (tl : List Value) (hl : l.length ≤ 1000) : Spec Tryz.prog 109 [.slice (some ⟨b, 0, none⟩) l.length c] [⟨some b, cl (l.flatMap encI ++ tl) 3⟩] (fun r H' => r = .int .i64 (orL l) ∧ H' = [⟨some b, cl (l.flatMap encI ++ tl) 3⟩]) := by
  refine Spec.of (E := [(0, .slice (some ⟨b, 0, none⟩) l.length c)]) Tryz.func109 rfl (by kernel_rfl) Tryz.ntmps109 rfl rfl (fun w => ?_)
  refine WC_seq ?_
  refine WC_region ?_
  refine WL_val rfl rfl rfl (R_assign rfl rfl) ?_
  refine WL_nil ?_
  refine WQ_code ?_
  refine WC_seq ?_
  refine WC_region ?_
  refine WL_val rfl rfl rfl (R_assign rfl rfl) ?_
  refine WL_nil ?_
  refine WQ_code ?_
  refine WC_seq ?_
  refine WC_seq ?_
  refine WC_region ?_
  refine WL_val rfl rfl rfl (R_move rfl rfl) ?_
  refine WL_val rfl rfl rfl (R_len rfl Tryz.underlying34 rfl) ?_
  refine WL_val rfl rfl rfl (R_move rfl rfl) ?_
  refine WL_nil ?_
  refine WQ_code ?_
  refine WC_block ?_
  refine WC_loopF (G := Nat) [2, 5, 8, 9, 10, 11, 12, 13, 14, 15, 16] (fun j => j ≤ l.length ∧ ∀ i y, i < j → l[i]? = some y → y = 0) (fun j => [(8, .int .i64 (j : Int))]) (fun j => []) (fun j => l.length - j) (0) (⟨Nat.zero_le _, fun i y h => absurd h (Nat.not_lt_zero i)⟩) leZ (pqY) ?_
  rintro j ⟨hj, hz⟩
  refine WC_seq ?_
  refine WC_region ?_
  refine WL_val rfl rfl rfl (R_lss rfl rfl rfl) ?_
  refine WL_nil ?_
  refine WQ_code ?_
  refine WC_seq ?_
  refine WC_dec rfl (fun c1 => ?_) (fun c1 => ?_)
  · refine WC_skip ?_
    refine WQ_code ?_
    refine WC_seq ?_
    refine WC_block ?_
    refine WC_seq ?_
    refine WC_region ?_
    obtain ⟨x, hx⟩ := exE (T := l) (i := j) (by omega)
    refine WL_val rfl rfl rfl (R_indexAddrN rfl Tryz.underlying34 Tryz.sizeOf3 rfl rfl (by omega)) ?_
    refine WL_val rfl rfl rfl (R_load (v := .int .i64 x) rfl sc3 rfl (mmY) (fm_get0 encI1 hx (j := 0) (by omega))) ?_
    refine WL_val rfl rfl rfl (R_assign rfl rfl) ?_
    refine WL_nil ?_
    refine WQ_code ?_
    refine WC_seq ?_
    refine WC_region ?_
    refine WL_val rfl rfl rfl (R_move rfl rfl) ?_
    refine WL_val rfl rfl rfl (R_move rfl rfl) ?_
    refine WL_val rfl rfl rfl (R_neq rfl rfl rfl) ?_
    refine WL_nil ?_
    refine WQ_code ?_
    refine WC_dec rfl (fun c2 => ?_) (fun c2 => ?_)
    · refine WC_seq ?_
      refine WC_region ?_
      refine WL_val rfl rfl rfl (R_move rfl rfl) ?_
      refine WL_val rfl rfl rfl (R_assign rfl rfl) ?_
      refine WL_nil ?_
      refine WQ_code ?_
      refine WC_ret ?_
      refine WQ_ret rfl rfl (.cons (.tmp rfl) .nil) rfl (by
          exact ⟨congrArg (Value.int .i64) (orL_at hx (by omega) hz).symm, rfl⟩) (pqY)
    · refine WC_skip ?_
      refine WQ_code ?_
      refine WC_region ?_
      refine WL_val rfl rfl rfl (R_add rfl rfl rfl (by omega)) ?_
      refine WL_val rfl rfl rfl (R_move rfl rfl) ?_
      refine WL_nil ?_
      refine WQ_nextF (j + 1) (⟨by omega, fun i y hi hy => by by_cases e : i = j; (subst e; rw [hx] at hy; obtain rfl := Option.some.inj hy; omega); (exact hz i y (by omega) hy)⟩) (by omega) leZ (psZ) rfl (pqY)
  · refine WC_exit ?_
    refine WQ_code ?_
    refine WC_seq ?_
    refine WC_region ?_
    refine WL_val rfl rfl rfl (R_move rfl rfl) ?_
    refine WL_val rfl rfl rfl (R_assign rfl rfl) ?_
    refine WL_nil ?_
    refine WQ_code ?_
    refine WC_ret ?_
    refine WQ_ret rfl rfl (.cons (.tmp rfl) .nil) rfl (by
        exact ⟨congrArg (Value.int .i64) (orL_none (fun i y hy => hz i y (by have h9 := (List.getElem?_eq_some_iff.1 hy).1; omega) hy)).symm, rfl⟩) (pqY)
end Go.Proofs.YtbkdebnkoidicaaGreat
end
