/-
  Chapter 09 (park), part HoldL: contracts of functions that the laws call, each for the heap it names.
-/
import Derived.Test.YtljmeemgjbcgeaaRows
import Derived.Test.YtljmeemgjbcgeaaZSLQueue
import Derived.Test.YtljmeemgjbcgeaaTab
import Derived.Test.YtljmeemgjbcgeaaQueL
set_option linter.unusedVariables false
set_option maxRecDepth 20000
set_option maxHeartbeats 2000000
namespace Go.Proofs.Ytljmeemgjbcgeaa


theorem same_okS (lw : List Int) (o2 : Option Nat) (k2 c2 : Nat) (p2 t2 : List Value) (own2 : OwnS o2 k2 lw.length c2 1 p2 (ivs lw) t2) (hl : lw.length ≤ 1000000) (o1 : Option Nat) (c1 : Nat) (t1 : List Value) (own1 : Own o1 lw.length c1 1 (ivs lw) t1) :
    Spec Try.prog 17 [slV o1 lw.length c1, sVal o2 k2 lw.length c2] [⟨o1, cl (ivs lw ++ t1) 3⟩, ⟨o2, cl (p2 ++ (ivs lw ++ t2)) 3⟩] (fun r H' => r = .bool true ∧ H' = [⟨o1, cl (ivs lw ++ t1) 3⟩, ⟨o2, cl (p2 ++ (ivs lw ++ t2)) 3⟩]) := by
  refine Spec.of (E := [(0, slV o1 lw.length c1), (1, sVal o2 k2 lw.length c2)]) Try.func17 rfl (by kernel_rfl) Try.ntmps17 rfl rfl (fun w => ?_)
  refine WC_seq ?_
  refine WC_region ?_
  refine WL_val rfl rfl rfl (R_assign rfl rfl) ?_
  refine WL_nil ?_
  refine WQ_code ?_
  refine WC_seq ?_
  refine WC_seq ?_
  refine WC_region ?_
  refine WL_val rfl rfl rfl (R_move rfl rfl) ?_
  refine WL_val rfl rfl rfl (R_len rfl Try.underlying32 rfl) ?_
  refine WL_val rfl rfl rfl (R_move rfl rfl) ?_
  refine WL_val rfl rfl rfl (R_len rfl Try.underlying32 rfl) ?_
  refine WL_val rfl rfl rfl (R_neq rfl rfl rfl) ?_
  refine WL_nil ?_
  refine WQ_code ?_
  refine WC_dF rfl (by simp) ?_
  refine WC_skip ?_
  refine WQ_code ?_
  refine WC_seq ?_
  refine WC_seq ?_
  refine WC_region ?_
  refine WL_val rfl rfl rfl (R_assign rfl rfl) ?_
  refine WL_nil ?_
  refine WQ_code ?_
  refine WC_block ?_
  refine WC_loopF (G := Nat) [4, 5, 11, 12, 13, 14, 15, 16, 17, 18, 19, 20, 21, 22, 23, 24, 25] (fun k => k ≤ lw.length) (fun k => [(5, .int .i64 (k : Int))]) (fun k => []) (fun k => lw.length - k) (0) (Nat.zero_le _) leZ (pqY) ?_
  rintro k hk
  refine WC_seq ?_
  refine WC_seq ?_
  refine WC_region ?_
  refine WL_val rfl rfl rfl (R_move rfl rfl) ?_
  refine WL_val rfl rfl rfl (R_move rfl rfl) ?_
  refine WL_val rfl rfl rfl (R_len rfl Try.underlying32 rfl) ?_
  refine WL_val rfl rfl rfl (R_lss rfl rfl rfl) ?_
  refine WL_nil ?_
  refine WQ_code ?_
  refine WC_dec rfl (fun c1 => ?_) (fun c1 => ?_)
  · refine WC_skip ?_
    refine WQ_code ?_
    refine WC_seq ?_
    refine WC_block ?_
    refine WC_seq ?_
    refine WC_draw _ [(0, true), (1, true), (2, true), (3, true), (4, true), (5, true), (6, true), (7, true), (8, true)] followsMixed rfl rfl (by kernel_rfl) .all ?_
    obtain ⟨x, hx⟩ := exE (T := lw) (i := k) (by omega)
    obtain ⟨wa, hwa⟩ := own1.some_of (by omega)
    obtain ⟨wb, hwb⟩ := own2.some_of (by omega)
    refine WM_val rfl rfl rfl rfl (R_move rfl rfl) ?_
    refine WM_val rfl rfl rfl rfl (R_move rfl rfl) ?_
    refine WM_val rfl rfl rfl rfl (R_idxO hwa rfl Try.underlying32 Try.sizeOf3 rfl rfl (by omega)) ?_
    refine WM_val rfl rfl rfl rfl (R_loadO (v := .int .i64 x) hwa rfl sc3 rfl (mmY) (fm_get0 encI1 hx (j := 0) (by omega))) ?_
    refine WM_val rfl rfl rfl rfl (R_move rfl rfl) ?_
    refine WM_val rfl rfl rfl rfl (R_move rfl rfl) ?_
    refine WM_val rfl rfl rfl rfl (R_indexS hwb rfl Try.underlying32 Try.sizeOf3 rfl rfl (by omega)) ?_
    refine WM_val rfl rfl rfl rfl (R_loadO hwb rfl sc3 rfl (mmY) (own2.get encI1 hx (by omega) (j := 0) (by omega))) ?_
    refine WM_val rfl rfl rfl rfl (R_neq rfl rfl rfl) ?_
    refine WM_nil ?_
    refine WQ_code ?_
    refine WC_dF rfl (by simp) ?_
    refine WC_skip ?_
    refine WQ_code ?_
    refine WC_region ?_
    refine WL_val rfl rfl rfl (R_move rfl rfl) ?_
    refine WL_val rfl rfl rfl (R_add rfl rfl rfl (by omega)) ?_
    refine WL_val rfl rfl rfl (R_assign rfl rfl) ?_
    refine WL_nil ?_
    refine WQ_nextF (k + 1) (by omega) (by omega) leZ (psZ) rfl (pqY)
  · refine WC_exit ?_
    refine WQ_code ?_
    refine WC_seq ?_
    refine WC_region ?_
    refine WL_val rfl rfl rfl (R_assign rfl rfl) ?_
    refine WL_nil ?_
    refine WQ_code ?_
    refine WC_ret ?_
    refine WQ_ret rfl rfl (.cons (.tmp rfl) .nil) rfl (by
        exact ⟨rfl, rfl⟩) (pqY)
theorem lwaits_okS (N : Nat) (s : PS) (l : PkM) (hl : PkIs N s l) (a : Sp) (h : vldS a) (lw : List Int) (o2 : Option Nat) (k2 c2 : Nat) (p2 t2 : List Value) (own2 : OwnS o2 k2 lw.length c2 1 p2 (ivs lw) t2) (hw : s.waiting a = lw) : Spec Try.prog 14 [ptrQ l.p, ekS a, sVal o2 k2 lw.length c2] (⟨o2, cl (p2 ++ (ivs lw ++ t2)) 3⟩ :: pkH l) (fun r H' => r = .bool true ∧ H' = ⟨o2, cl (p2 ++ (ivs lw ++ t2)) 3⟩ :: pkH l) := by
  have hwl := waiting_len hl.ps a
  rw [hw] at hwl
  refine Spec.of (E := [(0, ptrQ l.p), (1, ekS a), (2, sVal o2 k2 lw.length c2)]) Try.func14 rfl (by kernel_rfl) Try.ntmps14 rfl rfl (fun w => ?_)
  refine WC_seq ?_
  refine WC_region ?_
  refine WL_do rfl rfl rfl (D_box (cs := [_, _]) rfl rfl rfl) ?_
  rintro _ _ ⟨b1, rfl, rfl⟩
  refine WL_val rfl rfl rfl (R_assign rfl rfl) ?_
  refine WL_nil ?_
  refine WQ_code ?_
  refine WC_seq ?_
  refine WC_region ?_
  refine WL_val rfl rfl rfl (R_move rfl rfl) ?_
  refine WL_val rfl rfl rfl (R_loadA (vs := [_, _]) rfl ag25 rfl (mmY) rfl (atZ)) ?_
  refine WL_do rfl rfl rfl (D_call (pk_waiting N s l hl a) rfl rfl rfl rfl (pqY)) ?_
  rintro _ _ ⟨_, ⟨ob, c', tl', rfl, own', rfl⟩, rfl⟩
  rw [hw] at own' ⊢
  refine WL_val rfl rfl rfl (R_move rfl rfl) ?_
  refine WL_val rfl rfl rfl (R_extract rfl rfl rfl) ?_
  refine WL_val rfl rfl rfl (R_extract rfl rfl rfl) ?_
  refine WL_val rfl rfl rfl (R_assign rfl rfl) ?_
  refine WL_val rfl rfl rfl (R_assign rfl rfl) ?_
  refine WL_nil ?_
  refine WQ_code ?_
  refine WC_seq ?_
  refine WC_region ?_
  refine WL_val rfl rfl rfl (R_move rfl rfl) ?_
  refine WL_val rfl rfl rfl (R_move rfl rfl) ?_
  refine WL_do rfl rfl rfl (D_call (same_okS lw o2 k2 c2 p2 t2 own2 (by omega) ob c' tl' own') rfl rfl rfl rfl (pqY)) ?_
  rintro _ _ ⟨_, ⟨rfl, rfl⟩, rfl⟩
  refine WL_val rfl rfl rfl (R_move rfl rfl) ?_
  refine WL_val rfl rfl rfl (R_move rfl rfl) ?_
  refine WL_val rfl rfl rfl (R_eql rfl rfl rfl) ?_
  refine WL_set (s := 20) (v := .bool true) rfl (by simp [spE, h]) ?_
  refine WL_val rfl rfl rfl (R_pickT rfl rfl rfl) ?_
  refine WL_val rfl rfl rfl (R_assign rfl rfl) ?_
  refine WL_nil ?_
  refine WQ_code ?_
  refine WC_ret ?_
  refine WQ_ret rfl rfl (.cons (.tmp rfl) .nil) rfl (by
      exact ⟨rfl, rfl⟩) (pqY)
theorem park_W {s : PS} {i : Int} {a : Sp} (h : s.parkE i a = 0) : ∃ j : Nat, i = (j : Int) ∧ (s.park i a).W = s.W ++ [⟨j, a⟩] := by
  have h2 := h
  unfold PS.parkE at h2
  have h0 : (stR s.sm i).2 = 0 := by
    by_cases e : (stR s.sm i).2 = 0
    · exact e
    · rw [if_pos e] at h2; exact absurd h2 e
  obtain ⟨j, x, rfl, _, _⟩ := stR_some h0
  exact ⟨j, rfl, by unfold PS.park; rw [if_pos h, Int.toNat_natCast]; rfl⟩
theorem wOut_sub {W : List Wt} {i : Int} {one : Sp} (h : ∀ z ∈ W, z.at_ = one) : ∀ z ∈ wOut W i, z.at_ = one := fun z hz => h z (wOut_mem.1 hz).1
theorem wAt_none {W : List Wt} {one two : Sp} (h : ∀ z ∈ W, z.at_ = one) (hne : one ≠ two) : wAt W two = [] := by
  rw [List.eq_nil_iff_forall_not_mem]
  intro v hv
  obtain ⟨z, hz, e, _⟩ := wAt_mem.1 hv
  exact hne ((h z hz).symm.trans e)
theorem wait_none {s : PS} {one two : Sp} (h : ∀ z ∈ s.W, z.at_ = one) (hne : one ≠ two) : s.waiting two = [] := by
  unfold PS.waiting
  split
  · exact wAt_none h hne
  · rfl
theorem wAt_pop {s : PS} (h : PsOk s) {one : Sp} {v : Int} {r : List Int} (hq : wAt s.W one = v :: r) : wAt (wOut s.W v) one = r := by
  rw [wAt_out, hq]
  have hnd := wAt_nodup h.nd one
  rw [hq, List.nodup_cons] at hnd
  rw [List.filter_cons_of_neg (by simp)]
  exact List.filter_eq_self.2 fun x hx => decide_eq_true fun e => hnd.1 (e ▸ hx)
theorem in_state {s : PS} (h : PsOk s) {one : Sp} (hall : ∀ z ∈ s.W, z.at_ = one) {j : Nat} {x : Int} (hx : s.sm[j]? = some x) : (∃ v ∈ wAt s.W one, v = (j : Int)) ↔ x = 2 := by
  constructor
  · rintro ⟨v, hv, rfl⟩
    obtain ⟨z, hz, _, e⟩ := wAt_mem.1 hv
    have := (h.prk j).2 ⟨z, hz, by omega⟩
    rw [hx] at this
    exact Option.some.inj this
  · rintro rfl
    obtain ⟨z, hz, rfl⟩ := (h.prk j).1 hx
    exact ⟨_, wAt_mem.2 ⟨z, hz, hall z hz, rfl⟩, rfl⟩
structure HoW9 where
  k : Nat
  N : Nat
  s : PS
  m : PkM
  q : List Int
  ob : Option Nat
  kk : Nat
  c : Nat
  pre : List Value
  tl : List Value
structure InW9 where
  j : Nat
  b : Bool

end Go.Proofs.Ytljmeemgjbcgeaa
