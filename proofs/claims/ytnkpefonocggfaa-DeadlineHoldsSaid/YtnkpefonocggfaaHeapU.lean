/-
  Chapter 10 (deadline), part HeapU: contracts of functions that the laws call, each for the heap it names.
-/
import Derived.Test.YtnkpefonocggfaaRows
import Derived.Test.YtnkpefonocggfaaSLPhase
import Derived.Test.YtnkpefonocggfaaSLInt
import Derived.Test.YtnkpefonocggfaaTab
import Derived.Test.YtnkpefonocggfaaHeap
set_option linter.unusedVariables false
set_option maxRecDepth 20000
set_option maxHeartbeats 4000000
namespace Go.Proofs.Ytnkpefonocggfaa


structure UW where
  i : Nat
  E : List El
  l : List Nat
structure DW2 where
  c : Nat
  m : Nat
theorem up_ok (p bx be ne ce : Nat) (te : List Value) (n bl nl c : Nat) (tl : List Value) (E0 E : List El) (l : List Nat) (s : St E0 E l) (hne : E0.length = ne) (hnl : l.length = nl) (hbig : nl ≤ 2000) (i : Nat) (hi : i < nl) (hf : HFix (rkl E0 l) nl i) :
    Spec Try.prog 92 [.pointer (some ⟨p, 3, none⟩), .int .i64 (i : Int)] (hR p bx be ne ce te n bl nl c tl E l) (fun r H' => ∃ E' l', r = .tuple #[] ∧ H' = hR p bx be ne ce te n bl nl c tl E' l' ∧ St E0 E' l' ∧ l'.Perm l ∧ HDown (rkl E0 l') nl i) := by
  refine Spec.of (E := [(0, .pointer (some ⟨p, 3, none⟩)), (1, .int .i64 (i : Int))]) Try.func92 rfl (by kernel_rfl) Try.ntmps92 rfl rfl (fun w => ?_)
  refine WC_block ?_
  refine WC_loopF (G := UW) [1, 4, 5, 6, 7, 8, 9, 10, 11, 12, 13, 14, 15, 16, 17, 18, 19, 20, 21, 22, 23, 24, 25, 26, 27, 28, 29, 30, 31, 32, 33, 34, 35, 36, 37] (fun y => St E0 y.E y.l ∧ y.l.length = nl ∧ y.i < nl ∧ HFix (rkl E0 y.l) nl y.i ∧ (y.i = i ∨ HUp (rkl E0 y.l) nl y.i) ∧ y.l.Perm l) (fun y => [(1, .int .i64 (y.i : Int))]) (fun y => hR p bx be ne ce te n bl nl c tl y.E y.l) (fun y => y.i) (⟨i, E, l⟩) (⟨s, hnl, hi, hf, .inl rfl, .refl _⟩) (Le.lq (by repeat (first | exact Le.nil | refine Le.cons rfl (by first | rfl | (congr 1; omega)) ?_))) (by repeat (first | exact Pulls.nil | exact Pulls.all | (apply Pulls.cons; (repeat (first | exact Pull.head | apply Pull.tail))) | apply Pulls.skip)) ?_
  rintro y ⟨hs, hyl, hyi, hyf, hyu, hyp⟩
  refine WC_seq ?_
  refine WC_seq ?_
  refine WC_draw _ [(0, true), (1, true), (2, true), (3, true), (4, true), (5, true), (6, true), (7, true), (8, true), (9, true), (10, true), (11, true), (12, true), (13, true), (14, true), (15, true), (16, true), (17, true), (18, true), (19, true), (20, true), (21, true), (22, true), (23, true), (24, true)] followsMixed rfl rfl (by kernel_rfl) .all ?_
  refine WM_val rfl rfl rfl rfl (R_move rfl rfl) ?_
  refine WM_val rfl rfl rfl rfl (R_gtr rfl rfl rfl) ?_
  refine WM_val rfl rfl rfl rfl (R_move rfl rfl) ?_
  refine WM_splitD (s := 6) rfl (fun c1 => ?_) (fun c1 => ?_)
  · have h6 : ((y.i : Nat) : Int) > 0 := c1
    obtain ⟨q, hq⟩ : ∃ q, q = (y.i - 1) / 4 := ⟨_, rfl⟩
    obtain ⟨ha, xa, hla, ga, hxa, pa⟩ := hs.get (i := y.i) (by omega)
    obtain ⟨hb, xb, hlb, gb, hxb, pb⟩ := hs.get (i := q) (by omega)
    have ra : rkl E0 y.l y.i = rk y.E ha := by rw [rkl, ← hs.rk, ga]
    have rb : rkl E0 y.l q = rk y.E hb := by rw [rkl, ← hs.rk, gb]
    refine WM_val rfl rfl rfl rfl (R_move rfl rfl) ?_
    refine WM_val rfl rfl rfl rfl (R_nilCheck rfl rfl) ?_
    refine WM_val rfl rfl rfl rfl (R_fieldAddr rfl fa136_1 rfl) ?_
    refine WM_val rfl rfl rfl rfl (R_load rfl sc133 rfl (by repeat (first | exact List.Mem.head _ | refine List.Mem.tail _ ?_)) rfl) ?_
    refine WM_val rfl rfl rfl rfl (R_move rfl rfl) ?_
    refine WM_val rfl rfl rfl rfl (R_nilCheck rfl rfl) ?_
    refine WM_val rfl rfl rfl rfl (R_fieldAddr rfl fa136_0 rfl) ?_
    refine WM_val rfl rfl rfl rfl (R_load rfl sc116 rfl (by repeat (first | exact List.Mem.head _ | refine List.Mem.tail _ ?_)) rfl) ?_
    refine WM_val rfl rfl rfl rfl (R_move rfl rfl) ?_
    refine WM_val rfl rfl rfl rfl (R_indexAddrN rfl Try.underlying116 Try.sizeOf3 rfl rfl (by omega)) ?_
    refine WM_val rfl rfl rfl rfl (R_load (v := .int .i64 ((ha : Nat) : Int)) rfl sc3 rfl (by repeat (first | exact List.Mem.head _ | refine List.Mem.tail _ ?_)) (fm_get0 encN1 hla (j := 0) (by omega))) ?_
    refine WM_val rfl rfl rfl rfl (R_move rfl rfl) ?_
    refine WM_val rfl rfl rfl rfl (R_nilCheck rfl rfl) ?_
    refine WM_val rfl rfl rfl rfl (R_fieldAddr rfl fa136_0 rfl) ?_
    refine WM_val rfl rfl rfl rfl (R_load rfl sc116 rfl (by repeat (first | exact List.Mem.head _ | refine List.Mem.tail _ ?_)) rfl) ?_
    refine WM_val rfl rfl rfl rfl (R_move rfl rfl) ?_
    refine WM_val rfl rfl rfl rfl (R_sub rfl rfl rfl (by omega)) ?_
    refine WM_val rfl rfl rfl rfl (R_quoR (r := ((q : Nat) : Int)) rfl rfl rfl (by omega) (quo4 (by omega) (by omega) hq)) ?_
    refine WM_val rfl rfl rfl rfl (R_indexAddrN rfl Try.underlying116 Try.sizeOf3 rfl rfl (by omega)) ?_
    refine WM_val rfl rfl rfl rfl (R_load (v := .int .i64 ((hb : Nat) : Int)) rfl sc3 rfl (by repeat (first | exact List.Mem.head _ | refine List.Mem.tail _ ?_)) (fm_get0 encN1 hlb (j := 0) (by omega))) ?_
    refine WM_call rfl (Spec.quiet (bef_ok p bx be ne ce te n bl nl c tl y.E y.l (by rw [hs.len]; exact hne) ha hb xa xb hxa hxb (hs.sq _ _ hxa) (hs.sq _ _ hxb))) rfl rfl rfl rfl rfl rfl rfl (by repeat (first | exact Pulls.nil | exact Pulls.all | (apply Pulls.cons; (repeat (first | exact Pull.head | apply Pull.tail))) | apply Pulls.skip)) ?_
    refine WM_val rfl rfl rfl rfl (R_pickT rfl rfl rfl) ?_
    refine WM_nil ?_
    refine WQ_code ?_
    refine WC_dec rfl (fun c2 => ?_) (fun c2 => ?_)
    · have hlt : rk y.E ha < rk y.E hb := c2
      refine WC_skip ?_
      refine WQ_code ?_
      refine WC_block ?_
      refine WC_seq ?_
      refine WC_region ?_
      refine WL_val rfl rfl rfl (R_move rfl rfl) ?_
      refine WL_val rfl rfl rfl (R_move rfl rfl) ?_
      refine WL_val rfl rfl rfl (R_move rfl rfl) ?_
      refine WL_val rfl rfl rfl (R_sub rfl rfl rfl (by omega)) ?_
      refine WL_val rfl rfl rfl (R_quoR (r := ((q : Nat) : Int)) rfl rfl rfl (by omega) (quo4 (by omega) (by omega) hq)) ?_
      refine WL_do rfl rfl rfl (D_call (swap_ok p bx be ne ce te n bl nl c tl y.E y.l (by rw [hs.len]; exact hne) hyl y.i q (by omega) (by omega) xa xb (by rw [ga]; exact hxa) (by rw [gb]; exact hxb)) rfl rfl rfl rfl (by repeat (first | exact Pulls.nil | exact Pulls.all | (apply Pulls.cons; (repeat (first | exact Pull.head | apply Pull.tail))) | apply Pulls.skip))) ?_
      rintro _ _ ⟨_, ⟨rfl, rfl⟩, rfl⟩
      refine WL_nil ?_
      refine WQ_code ?_
      refine WC_region ?_
      refine WL_val rfl rfl rfl (R_move rfl rfl) ?_
      refine WL_val rfl rfl rfl (R_sub rfl rfl rfl (by omega)) ?_
      refine WL_val rfl rfl rfl (R_quoR (r := ((q : Nat) : Int)) rfl rfl rfl (by omega) (quo4 (by omega) (by omega) hq)) ?_
      refine WL_val rfl rfl rfl (R_assign rfl rfl) ?_
      refine WL_nil ?_
      have hup : HUp (rkl E0 (sw y.l y.i q)) nl q := up_step hyf (by omega) hyi hq (by omega) (sw_swapped (rk E0) (by omega) (by omega))
      refine WQ_nextF (⟨q, setp (setp y.E (gt0 y.l q) (y.i : Int)) (gt0 y.l y.i) (q : Int), sw y.l y.i q⟩) (⟨st_swap hs (by omega) (by omega), by dsimp only; rw [sw_len]; exact hyl, by dsimp only; omega, hup.fix, .inr hup, (sw_perm (by omega) (by omega)).trans hyp⟩) (by dsimp only; omega) (Le.lq (by repeat (first | exact Le.nil | refine Le.cons rfl (by first | rfl | (congr 1; omega)) ?_))) (by repeat (first | exact Pushed.refl | refine Pushed.push rfl ?_)) rfl (by repeat (first | exact Pulls.nil | exact Pulls.all | (apply Pulls.cons; (repeat (first | exact Pull.head | apply Pull.tail))) | apply Pulls.skip))
    · have hge : ¬ rk y.E ha < rk y.E hb := c2
      refine WC_exit ?_
      refine WQ_ret rfl rfl .nil rfl (by
          exact ⟨y.E, y.l, rfl, rfl, hs, hyp, up_done hyf hyu hi (.inr (by rw [← hq]; omega))⟩) (by repeat (first | exact Pulls.nil | exact Pulls.all | (apply Pulls.cons; (repeat (first | exact Pull.head | apply Pull.tail))) | apply Pulls.skip))
  · have h6 : ¬ ((y.i : Nat) : Int) > 0 := c1
    refine WM_skip rfl rfl rfl rfl ?_
    refine WM_skip rfl rfl rfl rfl ?_
    refine WM_skip rfl rfl rfl rfl ?_
    refine WM_skip rfl rfl rfl rfl ?_
    refine WM_skip rfl rfl rfl rfl ?_
    refine WM_skip rfl rfl rfl rfl ?_
    refine WM_skip rfl rfl rfl rfl ?_
    refine WM_skip rfl rfl rfl rfl ?_
    refine WM_skip rfl rfl rfl rfl ?_
    refine WM_skip rfl rfl rfl rfl ?_
    refine WM_skip rfl rfl rfl rfl ?_
    refine WM_skip rfl rfl rfl rfl ?_
    refine WM_skip rfl rfl rfl rfl ?_
    refine WM_skip rfl rfl rfl rfl ?_
    refine WM_skip rfl rfl rfl rfl ?_
    refine WM_skip rfl rfl rfl rfl ?_
    refine WM_skip rfl rfl rfl rfl ?_
    refine WM_skip rfl rfl rfl rfl ?_
    refine WM_skip rfl rfl rfl rfl ?_
    refine WM_skip rfl rfl rfl rfl ?_
    refine WM_skip rfl rfl rfl rfl ?_
    refine WM_val rfl rfl rfl rfl (R_pickF rfl rfl rfl) ?_
    refine WM_nil ?_
    refine WQ_code ?_
    refine WC_F rfl ?_
    refine WC_exit ?_
    refine WQ_ret rfl rfl .nil rfl (by
        exact ⟨y.E, y.l, rfl, rfl, hs, hyp, up_done hyf hyu hi (.inl (by omega))⟩) (by repeat (first | exact Pulls.nil | exact Pulls.all | (apply Pulls.cons; (repeat (first | exact Pull.head | apply Pull.tail))) | apply Pulls.skip))
theorem down_ok (p bx be ne ce : Nat) (te : List Value) (n bl nl c : Nat) (tl : List Value) (E0 E : List El) (l : List Nat) (s : St E0 E l) (hne : E0.length = ne) (hnl : l.length = nl) (hbig : nl ≤ 2000) (i : Nat) (hi : i < nl) (hd : HDown (rkl E0 l) nl i) :
    Spec Try.prog 98 [.pointer (some ⟨p, 3, none⟩), .int .i64 (i : Int)] (hR p bx be ne ce te n bl nl c tl E l) (fun r H' => ∃ E' l', r = .tuple #[] ∧ H' = hR p bx be ne ce te n bl nl c tl E' l' ∧ St E0 E' l' ∧ l'.Perm l ∧ HOk (rkl E0 l') nl) := by
  refine Spec.of (E := [(0, .pointer (some ⟨p, 3, none⟩)), (1, .int .i64 (i : Int))]) Try.func98 rfl (by kernel_rfl) Try.ntmps98 rfl rfl (fun w => ?_)
  refine WC_block ?_
  refine WC_loopF (G := UW) [1, 4, 5, 6, 7, 8, 9, 10, 11, 12, 13, 14, 15, 16, 17, 18, 19, 20, 21, 22, 23, 24, 25, 26, 27, 28, 29, 30, 31, 32, 33, 34, 35, 36, 37, 38, 39, 40, 41, 42, 43, 44, 45, 46, 47, 48, 49, 50, 51, 52, 53] (fun y => St E0 y.E y.l ∧ y.l.length = nl ∧ y.i < nl ∧ HDown (rkl E0 y.l) nl y.i ∧ y.l.Perm l) (fun y => [(1, .int .i64 (y.i : Int))]) (fun y => hR p bx be ne ce te n bl nl c tl y.E y.l) (fun y => nl - y.i) (⟨i, E, l⟩) (⟨s, hnl, hi, hd, .refl _⟩) (Le.lq (by repeat (first | exact Le.nil | refine Le.cons rfl (by first | rfl | (congr 1; omega)) ?_))) (by repeat (first | exact Pulls.nil | exact Pulls.all | (apply Pulls.cons; (repeat (first | exact Pull.head | apply Pull.tail))) | apply Pulls.skip)) ?_
  rintro y ⟨hs, hyl, hyi, hyd, hyp⟩
  refine WC_block ?_
  refine WC_seq ?_
  refine WC_region ?_
  refine WL_val rfl rfl rfl (R_move rfl rfl) ?_
  refine WL_val rfl rfl rfl (R_assign rfl rfl) ?_
  refine WL_nil ?_
  refine WQ_code ?_
  refine WC_seq ?_
  refine WC_seq ?_
  refine WC_region ?_
  refine WL_val rfl rfl rfl (R_move rfl rfl) ?_
  refine WL_val rfl rfl rfl (R_mul rfl rfl rfl (by omega)) ?_
  refine WL_val rfl rfl rfl (R_add rfl rfl rfl (by omega)) ?_
  refine WL_val rfl rfl rfl (R_assign rfl rfl) ?_
  refine WL_nil ?_
  refine WQ_code ?_
  refine WC_block ?_
  refine WC_loopF (G := DW2) [4, 5, 10, 11, 12, 13, 14, 15, 16, 17, 18, 19, 20, 21, 22, 23, 24, 25, 26, 27, 28, 29, 30, 31, 32, 33, 34, 35, 36, 37, 38, 39, 40, 41, 42, 43, 44, 45] (fun z => z.m < nl ∧ (z.m = y.i ∨ (0 < z.m ∧ (z.m - 1) / 4 = y.i)) ∧ 4 * y.i + 1 ≤ z.c ∧ z.c ≤ 4 * y.i + 5 ∧ rkl E0 y.l z.m ≤ rkl E0 y.l y.i ∧ (∀ c, 4 * y.i + 1 ≤ c → c < z.c → c < nl → rkl E0 y.l z.m ≤ rkl E0 y.l c)) (fun z => [(5, .int .i64 (z.c : Int)), (4, .int .i64 (z.m : Int))]) (fun z => []) (fun z => 4 * y.i + 5 - z.c) (⟨4 * y.i + 1, y.i⟩) (⟨hyi, .inl rfl, Nat.le_refl _, by dsimp only; omega, Nat.le_refl _, fun c h1 h2 _ => by dsimp only at h2; omega⟩) (Le.lq (by repeat (first | exact Le.nil | refine Le.cons rfl (by first | rfl | (congr 1; omega)) ?_))) (by repeat (first | exact Pulls.nil | exact Pulls.all | (apply Pulls.cons; (repeat (first | exact Pull.head | apply Pull.tail))) | apply Pulls.skip)) ?_
  rintro z ⟨hzm, hzi, hz1, hz5, hzr, hzc⟩
  refine WC_seq ?_
  refine WC_seq ?_
  refine WC_region ?_
  refine WL_val rfl rfl rfl (R_move rfl rfl) ?_
  refine WL_val rfl rfl rfl (R_move rfl rfl) ?_
  refine WL_val rfl rfl rfl (R_mul rfl rfl rfl (by omega)) ?_
  refine WL_val rfl rfl rfl (R_add rfl rfl rfl (by omega)) ?_
  refine WL_val rfl rfl rfl (R_leq rfl rfl rfl) ?_
  refine WL_val rfl rfl rfl (R_move rfl rfl) ?_
  refine WL_splitD (s := 15) rfl (fun c1 => ?_) (fun c1 => ?_)
  · have h15 : ((z.c : Nat) : Int) ≤ 4 * ((y.i : Nat) : Int) + 4 := c1
    refine WL_val rfl rfl rfl (R_move rfl rfl) ?_
    refine WL_val rfl rfl rfl (R_move rfl rfl) ?_
    refine WL_val rfl rfl rfl (R_nilCheck rfl rfl) ?_
    refine WL_val rfl rfl rfl (R_fieldAddr rfl fa136_0 rfl) ?_
    refine WL_val rfl rfl rfl (R_load rfl sc116 rfl (by repeat (first | exact List.Mem.head _ | refine List.Mem.tail _ ?_)) rfl) ?_
    refine WL_val rfl rfl rfl (R_len rfl Try.underlying116 rfl) ?_
    refine WL_val rfl rfl rfl (R_lss rfl rfl rfl) ?_
    refine WL_val rfl rfl rfl (R_pickT rfl rfl rfl) ?_
    refine WL_nil ?_
    refine WQ_code ?_
    refine WC_dec rfl (fun c2 => ?_) (fun c2 => ?_)
    · refine WC_skip ?_
      refine WQ_code ?_
      refine WC_seq ?_
      refine WC_block ?_
      refine WC_seq ?_
      refine WC_draw _ [(0, true), (1, true), (2, true), (3, true), (4, true), (5, true), (6, true), (7, true), (8, true), (9, true), (10, true), (11, true), (12, true), (13, true), (14, true), (15, true), (16, true), (17, true), (18, true)] followsMixed rfl rfl (by kernel_rfl) .all ?_
      obtain ⟨ha, xa, hla, ga, hxa, pa⟩ := hs.get (i := z.c) (by omega)
      obtain ⟨hb, xb, hlb, gb, hxb, pb⟩ := hs.get (i := z.m) (by omega)
      have ra : rkl E0 y.l z.c = rk y.E ha := by rw [rkl, ← hs.rk, ga]
      have rb : rkl E0 y.l z.m = rk y.E hb := by rw [rkl, ← hs.rk, gb]
      refine WM_val rfl rfl rfl rfl (R_move rfl rfl) ?_
      refine WM_val rfl rfl rfl rfl (R_nilCheck rfl rfl) ?_
      refine WM_val rfl rfl rfl rfl (R_fieldAddr rfl fa136_1 rfl) ?_
      refine WM_val rfl rfl rfl rfl (R_load rfl sc133 rfl (by repeat (first | exact List.Mem.head _ | refine List.Mem.tail _ ?_)) rfl) ?_
      refine WM_val rfl rfl rfl rfl (R_move rfl rfl) ?_
      refine WM_val rfl rfl rfl rfl (R_nilCheck rfl rfl) ?_
      refine WM_val rfl rfl rfl rfl (R_fieldAddr rfl fa136_0 rfl) ?_
      refine WM_val rfl rfl rfl rfl (R_load rfl sc116 rfl (by repeat (first | exact List.Mem.head _ | refine List.Mem.tail _ ?_)) rfl) ?_
      refine WM_val rfl rfl rfl rfl (R_move rfl rfl) ?_
      refine WM_val rfl rfl rfl rfl (R_indexAddrN rfl Try.underlying116 Try.sizeOf3 rfl rfl (by omega)) ?_
      refine WM_val rfl rfl rfl rfl (R_load (v := .int .i64 ((ha : Nat) : Int)) rfl sc3 rfl (by repeat (first | exact List.Mem.head _ | refine List.Mem.tail _ ?_)) (fm_get0 encN1 hla (j := 0) (by omega))) ?_
      refine WM_val rfl rfl rfl rfl (R_move rfl rfl) ?_
      refine WM_val rfl rfl rfl rfl (R_nilCheck rfl rfl) ?_
      refine WM_val rfl rfl rfl rfl (R_fieldAddr rfl fa136_0 rfl) ?_
      refine WM_val rfl rfl rfl rfl (R_load rfl sc116 rfl (by repeat (first | exact List.Mem.head _ | refine List.Mem.tail _ ?_)) rfl) ?_
      refine WM_val rfl rfl rfl rfl (R_move rfl rfl) ?_
      refine WM_val rfl rfl rfl rfl (R_indexAddrN rfl Try.underlying116 Try.sizeOf3 rfl rfl (by omega)) ?_
      refine WM_val rfl rfl rfl rfl (R_load (v := .int .i64 ((hb : Nat) : Int)) rfl sc3 rfl (by repeat (first | exact List.Mem.head _ | refine List.Mem.tail _ ?_)) (fm_get0 encN1 hlb (j := 0) (by omega))) ?_
      refine WM_call rfl (Spec.quiet (bef_ok p bx be ne ce te n bl nl c tl y.E y.l (by rw [hs.len]; exact hne) ha hb xa xb hxa hxb (hs.sq _ _ hxa) (hs.sq _ _ hxb))) rfl rfl rfl rfl rfl rfl rfl (by repeat (first | exact Pulls.nil | exact Pulls.all | (apply Pulls.cons; (repeat (first | exact Pull.head | apply Pull.tail))) | apply Pulls.skip)) ?_
      refine WM_nil ?_
      refine WQ_code ?_
      refine WC_dec rfl (fun c3 => ?_) (fun c3 => ?_)
      · have hlt : rk y.E ha < rk y.E hb := c3
        have hlt2 : rkl E0 y.l z.c < rkl E0 y.l z.m := by omega
        refine WC_region ?_
        refine WL_val rfl rfl rfl (R_move rfl rfl) ?_
        refine WL_val rfl rfl rfl (R_assign rfl rfl) ?_
        refine WL_nil ?_
        refine WQ_code ?_
        refine WC_region ?_
        refine WL_val rfl rfl rfl (R_move rfl rfl) ?_
        refine WL_val rfl rfl rfl (R_add rfl rfl rfl (by omega)) ?_
        refine WL_val rfl rfl rfl (R_assign rfl rfl) ?_
        refine WL_nil ?_
        refine WQ_nextF (⟨z.c + 1, z.c⟩) (⟨by dsimp only; omega, .inr (by dsimp only; omega), by dsimp only; omega, by dsimp only; omega, by dsimp only; omega, fun c h1 h2 h3 => by dsimp only at h2 ⊢; by_cases e : c = z.c; (subst e; exact Nat.le_refl _); (have := hzc c h1 (by omega) h3; omega)⟩) (by dsimp only; omega) (Le.lq (by repeat (first | exact Le.nil | refine Le.cons rfl (by first | rfl | (congr 1; omega)) ?_))) (by repeat (first | exact Pushed.refl | refine Pushed.push rfl ?_)) rfl (by repeat (first | exact Pulls.nil | exact Pulls.all | (apply Pulls.cons; (repeat (first | exact Pull.head | apply Pull.tail))) | apply Pulls.skip))
      · have hge : ¬ rk y.E ha < rk y.E hb := c3
        have hge2 : ¬ rkl E0 y.l z.c < rkl E0 y.l z.m := by omega
        refine WC_skip ?_
        refine WQ_code ?_
        refine WC_region ?_
        refine WL_val rfl rfl rfl (R_move rfl rfl) ?_
        refine WL_val rfl rfl rfl (R_add rfl rfl rfl (by omega)) ?_
        refine WL_val rfl rfl rfl (R_assign rfl rfl) ?_
        refine WL_nil ?_
        refine WQ_nextF (⟨z.c + 1, z.m⟩) (⟨hzm, hzi, by dsimp only; omega, by dsimp only; omega, hzr, fun c h1 h2 h3 => by dsimp only at h2 ⊢; by_cases e : c = z.c; (subst e; omega); (exact hzc c h1 (by omega) h3)⟩) (by dsimp only; omega) (Le.lq (by repeat (first | exact Le.nil | refine Le.cons rfl (by first | rfl | (congr 1; omega)) ?_))) (by repeat (first | exact Pushed.refl | refine Pushed.push rfl ?_)) rfl (by repeat (first | exact Pulls.nil | exact Pulls.all | (apply Pulls.cons; (repeat (first | exact Pull.head | apply Pull.tail))) | apply Pulls.skip))
    · refine WC_exit ?_
      refine WQ_code ?_
      refine WC_seq ?_
      refine WC_seq ?_
      refine WC_region ?_
      refine WL_val rfl rfl rfl (R_move rfl rfl) ?_
      refine WL_val rfl rfl rfl (R_move rfl rfl) ?_
      refine WL_val rfl rfl rfl (R_eql rfl rfl rfl) ?_
      refine WL_nil ?_
      refine WQ_code ?_
      refine WC_dec rfl (fun c4 => ?_) (fun c4 => ?_)
      · have hmi : z.m = y.i := by omega
        refine WC_ret ?_
        refine WQ_ret rfl rfl .nil rfl (by
            exact ⟨y.E, y.l, rfl, rfl, hs, hyp, down_done hyd (fun c h1 h2 h3 => by have := hzc c (by omega) (by omega) h1; rw [hmi] at this; exact this)⟩) (by repeat (first | exact Pulls.nil | exact Pulls.all | (apply Pulls.cons; (repeat (first | exact Pull.head | apply Pull.tail))) | apply Pulls.skip))
      · have hmi : ¬ z.m = y.i := by omega
        obtain ⟨ha, xa, hla, ga, hxa, pa⟩ := hs.get (i := y.i) (by omega)
        obtain ⟨hb, xb, hlb, gb, hxb, pb⟩ := hs.get (i := z.m) (by omega)
        have ra : rkl E0 y.l y.i = rk y.E ha := by rw [rkl, ← hs.rk, ga]
        have rb : rkl E0 y.l z.m = rk y.E hb := by rw [rkl, ← hs.rk, gb]
        refine WC_skip ?_
        refine WQ_code ?_
        refine WC_seq ?_
        refine WC_region ?_
        refine WL_val rfl rfl rfl (R_move rfl rfl) ?_
        refine WL_val rfl rfl rfl (R_move rfl rfl) ?_
        refine WL_val rfl rfl rfl (R_move rfl rfl) ?_
        refine WL_do rfl rfl rfl (D_call (swap_ok p bx be ne ce te n bl nl c tl y.E y.l (by rw [hs.len]; exact hne) hyl y.i z.m (by omega) (by omega) xa xb (by rw [ga]; exact hxa) (by rw [gb]; exact hxb)) rfl rfl rfl rfl (by repeat (first | exact Pulls.nil | exact Pulls.all | (apply Pulls.cons; (repeat (first | exact Pull.head | apply Pull.tail))) | apply Pulls.skip))) ?_
        rintro _ _ ⟨_, ⟨rfl, rfl⟩, rfl⟩
        refine WL_nil ?_
        refine WQ_code ?_
        refine WC_region ?_
        refine WL_val rfl rfl rfl (R_move rfl rfl) ?_
        refine WL_val rfl rfl rfl (R_assign rfl rfl) ?_
        refine WL_nil ?_
        have hdn : HDown (rkl E0 (sw y.l y.i z.m)) nl z.m := down_step hyd hzm (by omega) (by omega) hzr (fun c h1 h2 h3 => hzc c (by omega) (by omega) h1) (sw_swapped (rk E0) (by omega) (by omega))
        refine WQ_nextF (⟨z.m, setp (setp y.E (gt0 y.l z.m) (y.i : Int)) (gt0 y.l y.i) (z.m : Int), sw y.l y.i z.m⟩) (⟨st_swap hs (by omega) (by omega), by dsimp only; rw [sw_len]; exact hyl, hzm, hdn, (sw_perm (by omega) (by omega)).trans hyp⟩) (by dsimp only; omega) (Le.lq (by repeat (first | exact Le.nil | refine Le.cons rfl (by first | rfl | (congr 1; omega)) ?_))) (by repeat (first | exact Pushed.refl | refine Pushed.push rfl ?_)) rfl (by repeat (first | exact Pulls.nil | exact Pulls.all | (apply Pulls.cons; (repeat (first | exact Pull.head | apply Pull.tail))) | apply Pulls.skip))
  · have h15 : ¬ ((z.c : Nat) : Int) ≤ 4 * ((y.i : Nat) : Int) + 4 := c1
    refine WL_skip rfl rfl rfl ?_
    refine WL_skip rfl rfl rfl ?_
    refine WL_skip rfl rfl rfl ?_
    refine WL_skip rfl rfl rfl ?_
    refine WL_skip rfl rfl rfl ?_
    refine WL_skip rfl rfl rfl ?_
    refine WL_skip rfl rfl rfl ?_
    refine WL_val rfl rfl rfl (R_pickF rfl rfl rfl) ?_
    refine WL_nil ?_
    refine WQ_code ?_
    refine WC_F rfl ?_
    refine WC_exit ?_
    refine WQ_code ?_
    refine WC_seq ?_
    refine WC_seq ?_
    refine WC_region ?_
    refine WL_val rfl rfl rfl (R_move rfl rfl) ?_
    refine WL_val rfl rfl rfl (R_move rfl rfl) ?_
    refine WL_val rfl rfl rfl (R_eql rfl rfl rfl) ?_
    refine WL_nil ?_
    refine WQ_code ?_
    refine WC_dec rfl (fun c5 => ?_) (fun c5 => ?_)
    · have hmi : z.m = y.i := by omega
      refine WC_ret ?_
      refine WQ_ret rfl rfl .nil rfl (by
          exact ⟨y.E, y.l, rfl, rfl, hs, hyp, down_done hyd (fun c h1 h2 h3 => by have := hzc c (by omega) (by omega) h1; rw [hmi] at this; exact this)⟩) (by repeat (first | exact Pulls.nil | exact Pulls.all | (apply Pulls.cons; (repeat (first | exact Pull.head | apply Pull.tail))) | apply Pulls.skip))
    · have hmi : ¬ z.m = y.i := by omega
      obtain ⟨ha, xa, hla, ga, hxa, pa⟩ := hs.get (i := y.i) (by omega)
      obtain ⟨hb, xb, hlb, gb, hxb, pb⟩ := hs.get (i := z.m) (by omega)
      have ra : rkl E0 y.l y.i = rk y.E ha := by rw [rkl, ← hs.rk, ga]
      have rb : rkl E0 y.l z.m = rk y.E hb := by rw [rkl, ← hs.rk, gb]
      refine WC_skip ?_
      refine WQ_code ?_
      refine WC_seq ?_
      refine WC_region ?_
      refine WL_val rfl rfl rfl (R_move rfl rfl) ?_
      refine WL_val rfl rfl rfl (R_move rfl rfl) ?_
      refine WL_val rfl rfl rfl (R_move rfl rfl) ?_
      refine WL_do rfl rfl rfl (D_call (swap_ok p bx be ne ce te n bl nl c tl y.E y.l (by rw [hs.len]; exact hne) hyl y.i z.m (by omega) (by omega) xa xb (by rw [ga]; exact hxa) (by rw [gb]; exact hxb)) rfl rfl rfl rfl (by repeat (first | exact Pulls.nil | exact Pulls.all | (apply Pulls.cons; (repeat (first | exact Pull.head | apply Pull.tail))) | apply Pulls.skip))) ?_
      rintro _ _ ⟨_, ⟨rfl, rfl⟩, rfl⟩
      refine WL_nil ?_
      refine WQ_code ?_
      refine WC_region ?_
      refine WL_val rfl rfl rfl (R_move rfl rfl) ?_
      refine WL_val rfl rfl rfl (R_assign rfl rfl) ?_
      refine WL_nil ?_
      have hdn : HDown (rkl E0 (sw y.l y.i z.m)) nl z.m := down_step hyd hzm (by omega) (by omega) hzr (fun c h1 h2 h3 => hzc c (by omega) (by omega) h1) (sw_swapped (rk E0) (by omega) (by omega))
      refine WQ_nextF (⟨z.m, setp (setp y.E (gt0 y.l z.m) (y.i : Int)) (gt0 y.l y.i) (z.m : Int), sw y.l y.i z.m⟩) (⟨st_swap hs (by omega) (by omega), by dsimp only; rw [sw_len]; exact hyl, hzm, hdn, (sw_perm (by omega) (by omega)).trans hyp⟩) (by dsimp only; omega) (Le.lq (by repeat (first | exact Le.nil | refine Le.cons rfl (by first | rfl | (congr 1; omega)) ?_))) (by repeat (first | exact Pushed.refl | refine Pushed.push rfl ?_)) rfl (by repeat (first | exact Pulls.nil | exact Pulls.all | (apply Pulls.cons; (repeat (first | exact Pull.head | apply Pull.tail))) | apply Pulls.skip))
theorem fix_ok (p bx be ne ce : Nat) (te : List Value) (n bl nl c : Nat) (tl : List Value) (E0 E : List El) (l : List Nat) (s : St E0 E l) (hne : E0.length = ne) (hnl : l.length = nl) (hbig : nl ≤ 2000) (i : Nat) (hi : i < nl) (hf : HFix (rkl E0 l) nl i) :
    Spec Try.prog 91 [.pointer (some ⟨p, 3, none⟩), .int .i64 (i : Int)] (hR p bx be ne ce te n bl nl c tl E l) (fun r H' => ∃ E' l', r = .tuple #[] ∧ H' = hR p bx be ne ce te n bl nl c tl E' l' ∧ St E0 E' l' ∧ l'.Perm l ∧ HOk (rkl E0 l') nl) := by
  refine Spec.of (E := [(0, .pointer (some ⟨p, 3, none⟩)), (1, .int .i64 (i : Int))]) Try.func91 rfl (by kernel_rfl) Try.ntmps91 rfl rfl (fun w => ?_)
  refine WC_seq ?_
  refine WC_region ?_
  refine WL_val rfl rfl rfl (R_move rfl rfl) ?_
  refine WL_val rfl rfl rfl (R_move rfl rfl) ?_
  refine WL_do rfl rfl rfl (D_call (up_ok p bx be ne ce te n bl nl c tl E0 E l s hne hnl hbig i hi hf) rfl rfl rfl rfl (by repeat (first | exact Pulls.nil | exact Pulls.all | (apply Pulls.cons; (repeat (first | exact Pull.head | apply Pull.tail))) | apply Pulls.skip))) ?_
  rintro _ _ ⟨_, ⟨E1, l1, rfl, rfl, s1, p1, d1⟩, rfl⟩
  refine WL_nil ?_
  refine WQ_code ?_
  refine WC_region ?_
  refine WL_val rfl rfl rfl (R_move rfl rfl) ?_
  refine WL_val rfl rfl rfl (R_move rfl rfl) ?_
  refine WL_do rfl rfl rfl (D_call (down_ok p bx be ne ce te n bl nl c tl E0 E1 l1 s1 hne (p1.length_eq.trans hnl) hbig i hi d1) rfl rfl rfl rfl (by repeat (first | exact Pulls.nil | exact Pulls.all | (apply Pulls.cons; (repeat (first | exact Pull.head | apply Pull.tail))) | apply Pulls.skip))) ?_
  rintro _ _ ⟨_, ⟨E2, l2, rfl, rfl, s2, p2, d2⟩, rfl⟩
  refine WL_nil ?_
  refine WQ_ret rfl rfl .nil rfl (by
      exact ⟨E2, l2, rfl, rfl, s2, p2.trans p1, d2⟩) (by repeat (first | exact Pulls.nil | exact Pulls.all | (apply Pulls.cons; (repeat (first | exact Pull.head | apply Pull.tail))) | apply Pulls.skip))

end Go.Proofs.Ytnkpefonocggfaa
