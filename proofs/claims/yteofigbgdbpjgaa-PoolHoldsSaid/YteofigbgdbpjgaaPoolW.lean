/-
  Chapter 46 (pool), part PoolW: contracts of functions that the laws call, each for the heap it names.
-/
import Derived.Test.YteofigbgdbpjgaaRows
import Derived.Test.YteofigbgdbpjgaaZB
import Derived.Test.YteofigbgdbpjgaaSLMapJ
import Derived.Test.YteofigbgdbpjgaaSLScope
import Derived.Test.YteofigbgdbpjgaaTab
import Derived.Test.YteofigbgdbpjgaaPoolU
import Derived.Test.YteofigbgdbpjgaaPoolK
import Derived.Test.YteofigbgdbpjgaaIsl
import Derived.Test.YteofigbgdbpjgaaPoolVH
set_option linter.unusedVariables false
set_option maxRecDepth 20000
set_option maxHeartbeats 4000000
namespace Go.Proofs.Yteofigbgdbpjgaa


theorem padv_ok {m : PM} {s : PS} (h : PIs m s) (hE : s.E.length ≤ 10000) (now : Nat) (hb : now ≤ 18446744073709551615) (h19 : s.cnt 3 ≤ 19) : Spec Try.prog 18 [ptrP m.p, .int .u64 (now : Int)] (poH m s) (fun r H' => ∃ m', r = .int .i64 (s.may true now) ∧ H' = poH m' (s.advance now) ∧ m'.p = m.p ∧ PIs m' (s.advance now)) := by
  have hql := h.ql
  have hll : (s.late now).length ≤ 1001 := by have := (late_perm s now).length_eq; have h9 := List.length_filter_le (fun x : Qp => decide (x.dl ≤ now)) s.Q; omega
  have hml : ((s.late now).map (·.who)).length = (s.late now).length := List.length_map _
  refine Spec.of (E := [(0, ptrP m.p), (1, .int .u64 (now : Int))]) Try.func18 rfl (by kernel_rfl) Try.ntmps18 rfl rfl (fun w => ?_)
  refine WC_seq ?_
  refine WC_region ?_
  refine WL_do rfl rfl rfl (D_box (cs := [_]) rfl rfl rfl) ?_
  rintro _ _ ⟨b1, rfl, rfl⟩
  refine WL_do rfl rfl rfl (D_box (cs := [_]) rfl rfl rfl) ?_
  rintro _ _ ⟨b2, rfl, rfl⟩
  refine WL_val rfl rfl rfl (R_assign rfl rfl) ?_
  refine WL_nil ?_
  refine WQ_code ?_
  refine WC_seq ?_
  refine WC_seq ?_
  refine WC_region ?_
  refine WL_val rfl rfl rfl (R_load rfl sc23 rfl (mmZ) rfl) ?_
  refine WL_val rfl rfl rfl (R_load rfl sc28 rfl (mmZ) rfl) ?_
  refine WL_do rfl rfl rfl (D_call (pmay_ok h true now) rfl rfl rfl rfl (pqZ)) ?_
  rintro _ _ ⟨_, ⟨rfl, rfl⟩, rfl⟩
  refine WL_val rfl rfl rfl (R_assign rfl rfl) ?_
  refine WL_nil ?_
  refine WQ_code ?_
  refine WC_seq ?_
  refine WC_region ?_
  refine WL_val rfl rfl rfl (R_move rfl rfl) ?_
  refine WL_val rfl rfl rfl (R_neq rfl rfl rfl) ?_
  refine WL_nil ?_
  refine WQ_code ?_
  refine WC_dec rfl (fun c1 => ?_) (fun c1 => ?_)
  · have hm := c1
    refine WC_seq ?_
    refine WC_region ?_
    refine WL_val rfl rfl rfl (R_move rfl rfl) ?_
    refine WL_val rfl rfl rfl (R_assign rfl rfl) ?_
    refine WL_nil ?_
    refine WQ_code ?_
    refine WC_ret ?_
    refine WQ_ret rfl rfl (.cons (.tmp rfl) .nil) rfl (by
        exact ⟨m, rfl, by rw [adv_no hm], rfl, by rw [adv_no hm]; exact h⟩) (pqZ)
  · have hm : s.may true now = 0 := Decidable.byContradiction c1
    refine WC_skip ?_
    refine WQ_code ?_
    refine WC_seq ?_
    refine WC_seq ?_
    refine WC_region ?_
    refine WL_val rfl rfl rfl (R_load rfl sc23 rfl (mmZ) rfl) ?_
    refine WL_do rfl rfl rfl (D_call (pfull_ok h hE) rfl rfl rfl rfl (pqZ)) ?_
    rintro _ _ ⟨_, ⟨rfl, rfl⟩, rfl⟩
    refine WL_val rfl rfl rfl (R_assign rfl rfl) ?_
    refine WL_nil ?_
    refine WQ_code ?_
    refine WC_seq ?_
    refine WC_region ?_
    refine WL_val rfl rfl rfl (R_move rfl rfl) ?_
    refine WL_val rfl rfl rfl (R_neq rfl rfl rfl) ?_
    refine WL_nil ?_
    refine WQ_code ?_
    refine WC_dF rfl (by simp) ?_
    refine WC_skip ?_
    refine WQ_code ?_
    refine WC_seq ?_
    refine WC_region ?_
    refine WL_val rfl rfl rfl (R_load rfl sc23 rfl (mmZ) rfl) ?_
    refine WL_val rfl rfl rfl (R_load rfl sc28 rfl (mmZ) rfl) ?_
    refine WL_val rfl rfl rfl (R_nilCheck rfl rfl) ?_
    refine WL_val rfl rfl rfl (R_fieldAddr rfl fa71_3 rfl) ?_
    refine WL_do0 rfl rfl (D_store (vs := [_]) rfl Try.sizeOf28 rfl rfl rfl rfl rfl (plZ) (by exact pc_nowr m s)) ?_
    rintro _ _ rfl
    rw [pc_now]
    obtain ⟨_, hle, hnm⟩ := may_zero hm
    have h0 := h.at_ (now := now) hle (by omega)
    refine WL_nil ?_
    refine WQ_code ?_
    refine WC_seq ?_
    refine WC_region ?_
    refine WL_val rfl rfl rfl (R_load rfl sc23 rfl (mmZ) rfl) ?_
    refine WL_val rfl rfl rfl (R_nilCheck rfl rfl) ?_
    refine WL_val rfl rfl rfl (R_fieldAddr rfl fa71_6 rfl) ?_
    refine WL_val rfl rfl rfl (R_load (v := .map (some m.wm)) rfl sc69 rfl (mmZ) (pc_t h.cl rfl 1)) ?_
    refine WL_do rfl rfl rfl (D_call (wkeys_ok m.wm) rfl rfl rfl rfl (pqZ)) ?_
    rintro _ _ ⟨_, ⟨bb, rfl, rfl⟩, rfl⟩
    refine WL_do rfl rfl rfl (D_call (wcoll_ok (W := wq s.Q) (by rw [List.length_map]; exact hql) bb m.wm m.wes m.wmc h.wM) rfl rfl rfl rfl (pqZ)) ?_
    rintro _ _ ⟨_, ⟨xs, o9, c9, tl9, hperm, rfl, own9, rfl⟩, rfl⟩
    refine WL_val rfl rfl rfl (R_makeFunc rfl rfl rfl) ?_
    have hxl : xs.length ≤ 1001 := by have := hperm.length_eq; rw [List.length_map, List.length_map] at this; omega
    refine WL_do rfl rfl rfl (D_call (delf_ok xs o9 c9 tl9 own9 49 [.pointer (some ⟨b1, 0, none⟩), .pointer (some ⟨b2, 0, none⟩)] [⟨some b1, cl [ptrP m.p] 23⟩, ⟨some b2, cl [.int .u64 (now : Int)] 28⟩, poP m (s.at_ now), poW m] (keepW s.Q now) (fun v _ => padv1_ok h0 b1 b2 now v) (by omega)) rfl rfl rfl rfl (pqZ)) ?_
    rintro _ _ ⟨_, ⟨n2, tl2, rfl, rfl, own2, rfl⟩, rfl⟩
    refine WL_val rfl rfl rfl (R_assign rfl rfl) ?_
    refine WL_nil ?_
    refine WQ_code ?_
    refine WC_seq ?_
    refine WC_region ?_
    refine WL_val rfl rfl rfl (R_move rfl rfl) ?_
    refine WL_val rfl rfl rfl (R_makeFunc rfl rfl rfl) ?_
    refine WL_do rfl rfl rfl (D_call (psort_ok h0 b1 (xs.filter (fun v => !keepW s.Q now v)) (by have := List.length_filter_le (fun v => !keepW s.Q now v) xs; omega) o9 c9 tl2 own2) rfl rfl rfl rfl (pqZ)) ?_
    rintro _ _ ⟨_, ⟨ys, rfl, hp2, hs2, rfl⟩, rfl⟩
    have hys : ys = (s.late now).map (·.who) := late_eq h hnm hperm hp2 hs2
    have hyl : (xs.filter (fun v => !keepW s.Q now v)).length = ((s.late now).map (·.who)).length := by rw [← hys]; exact hp2.length_eq.symm
    subst hys
    rw [hyl]
    refine WL_nil ?_
    refine WQ_code ?_
    refine WC_seq ?_
    refine WC_seq ?_
    refine WC_region ?_
    refine WL_val rfl rfl rfl (R_move rfl rfl) ?_
    refine WL_val rfl rfl rfl (R_len rfl Try.underlying78 rfl) ?_
    refine WL_val rfl rfl rfl (R_move rfl rfl) ?_
    refine WL_nil ?_
    refine WQ_code ?_
    refine WC_block ?_
    refine WC_loopF (G := AdW) [9, 41, 42, 43, 44, 45, 46, 47, 48, 49, 50, 51] (fun y => y.k ≤ (s.late now).length ∧ PIs y.m (((s.late now).take y.k).foldl PS.tmo (s.at_ now)) ∧ y.m.p = m.p) (fun y => [(41, .int .i64 (y.k : Int))]) (fun y => poH y.m (((s.late now).take y.k).foldl PS.tmo (s.at_ now))) (fun y => (s.late now).length - y.k) (⟨0, m⟩) (⟨Nat.zero_le _, h0, rfl⟩) leZ (pqZ) ?_
    rintro y ⟨hk, hy, hyp⟩
    rw [← hyp]
    have hEk := (tmo_rest ((s.late now).take y.k) (s.at_ now)).2.2.2.1
    rw [List.length_take, show (s.at_ now).E = s.E from rfl] at hEk
    refine WC_seq ?_
    refine WC_region ?_
    refine WL_val rfl rfl rfl (R_lss rfl rfl rfl) ?_
    refine WL_nil ?_
    refine WQ_code ?_
    refine WC_seq ?_
    refine WC_dec rfl (fun c2 => ?_) (fun c2 => ?_)
    · refine WC_skip ?_
      refine WQ_code ?_
      refine WC_seq ?_
      refine WC_block ?_
      refine WC_seq ?_
      refine WC_region ?_
      obtain ⟨wa, hwa⟩ := own2.some_of (by omega)
      obtain ⟨x, hx⟩ := getE (T := s.late now) (i := y.k) (by omega)
      obtain ⟨A, B, hQ⟩ := tmo_in h.nd hx (s.at_ now) rfl
      refine WL_val rfl rfl rfl (R_idxO hwa rfl Try.underlying78 Try.sizeOf3 rfl rfl (by omega)) ?_
      refine WL_val rfl rfl rfl (R_loadO (v := .int .i64 x.who) hwa rfl sc3 rfl (mmZ) (fm_get0 encI1 (show ((s.late now).map (·.who))[y.k]? = some x.who by rw [List.getElem?_map, hx]; rfl) (j := 0) (by omega))) ?_
      refine WL_val rfl rfl rfl (R_assign rfl rfl) ?_
      refine WL_nil ?_
      refine WQ_code ?_
      refine WC_seq ?_
      refine WC_region ?_
      refine WL_val rfl rfl rfl (R_load rfl sc23 rfl (mmZ) rfl) ?_
      refine WL_val rfl rfl rfl (R_move rfl rfl) ?_
      refine WL_do rfl rfl rfl (D_call (pleave_ok hy hQ) rfl rfl rfl rfl (pqZ)) ?_
      rintro _ _ ⟨_, ⟨m1, rfl, rfl, hp1, h1⟩, rfl⟩
      rw [← hp1]
      refine WL_nil ?_
      refine WQ_code ?_
      refine WC_region ?_
      refine WL_val rfl rfl rfl (R_load rfl sc23 rfl (mmZ) rfl) ?_
      refine WL_val rfl rfl rfl (R_move rfl rfl) ?_
      refine WL_do rfl rfl rfl (D_call (ptellH_ok h1 4 x.who (-1) (show (((s.late now).take y.k).foldl PS.tmo (s.at_ now)).E.length ≤ 1000000 by omega)) rfl rfl rfl rfl (pqZ)) ?_
      rintro _ _ ⟨_, ⟨m2, rfl, rfl, hp2m, h2m⟩, rfl⟩
      refine WL_nil ?_
      refine WQ_code ?_
      refine WC_region ?_
      refine WL_val rfl rfl rfl (R_add rfl rfl rfl (by omega)) ?_
      refine WL_val rfl rfl rfl (R_move rfl rfl) ?_
      refine WL_nil ?_
      rw [show ((((s.late now).take y.k).foldl PS.tmo (s.at_ now)).leave x.who).tell 4 x.who (-1) = ((s.late now).take (y.k + 1)).foldl PS.tmo (s.at_ now) from (qp_next hx _).symm]
      refine WQ_nextF (⟨y.k + 1, m2⟩) (⟨by dsimp only; omega, by dsimp only; rw [qp_next hx]; exact h2m, by first | rfl | exact hp2m⟩) (by dsimp only; omega) leZ (psZ) rfl (pqZ)
    · have hkl : y.k = (s.late now).length := by omega
      have hst : ((s.late now).take y.k).foldl PS.tmo (s.at_ now) = s.adv1 now := by rw [hkl, List.take_length]; rfl
      rw [hst]
      rw [hst] at hy
      have hC1 : (s.adv1 now).C = s.C := (tmo_rest (s.late now) (s.at_ now)).1
      have hN1 : (s.adv1 now).now = now := (tmo_rest (s.late now) (s.at_ now)).2.2.1
      have hE1 : (s.adv1 now).E.length = s.E.length + (s.late now).length := (tmo_rest (s.late now) (s.at_ now)).2.2.2.1
      refine WC_exit ?_
      refine WQ_code ?_
      refine WC_seq ?_
      refine WC_region ?_
      refine WL_val rfl rfl rfl (R_load rfl sc23 rfl (mmZ) rfl) ?_
      refine WL_do rfl rfl rfl (D_call (pall_ok hy 3) rfl rfl rfl rfl (pqZ)) ?_
      rintro _ _ ⟨_, ⟨o8, c8, tl8, rfl, own8, rfl⟩, rfl⟩
      refine WL_val rfl rfl rfl (R_makeFunc rfl rfl rfl) ?_
      refine WL_do rfl rfl rfl (D_call (delf_ok (allI 3 (s.adv1 now).C) o8 c8 tl8 own8 54 [.pointer (some ⟨b1, 0, none⟩), .pointer (some ⟨b2, 0, none⟩)] [⟨some b1, cl [ptrP y.m.p] 23⟩, ⟨some b2, cl [.int .u64 (now : Int)] 28⟩, poP y.m (s.adv1 now)] (young (s.adv1 now) now) (fun v hv => padv3_ok hy b1 b2 now (by rw [hN1]; exact Nat.le_refl _) hb v hv) (by have := allI_len 3 (s.adv1 now).C; rw [hy.cl] at this; omega)) rfl rfl rfl rfl (pqZ)) ?_
      rintro _ _ ⟨_, ⟨n3, tl3, rfl, rfl, own3, rfl⟩, rfl⟩
      refine WL_val rfl rfl rfl (R_assign rfl rfl) ?_
      refine WL_nil ?_
      refine WQ_code ?_
      refine WC_seq ?_
      refine WC_region ?_
      refine WL_val rfl rfl rfl (R_move rfl rfl) ?_
      refine WL_val rfl rfl rfl (R_makeFunc rfl rfl rfl) ?_
      refine WL_do rfl rfl rfl (D_call (stabf_ok ((allI 3 (s.adv1 now).C).filter (fun v => !young (s.adv1 now) now v)) o8 c8 tl3 own3 56 [.pointer (some ⟨b1, 0, none⟩)] [⟨some b1, cl [ptrP y.m.p] 23⟩, poP y.m (s.adv1 now)] (ageC (s.adv1 now).C) (fun a ha b hb => padv4_ok hy b1 a b (List.mem_filter.1 ha).1 (List.mem_filter.1 hb).1) (by have := List.length_filter_le (fun v => !young (s.adv1 now) now v) (allI 3 (s.adv1 now).C); rw [hC1] at this ⊢; unfold PS.cnt at h19; omega)) rfl rfl rfl rfl (pqZ)) ?_
      rintro _ _ ⟨_, ⟨rfl, rfl⟩, rfl⟩
      rw [old_eq]
      have hol3 : ((allI 3 (s.adv1 now).C).filter (fun v => !young (s.adv1 now) now v)).length = ((s.adv1 now).old now).length := (List.mergeSort_perm _ _).length_eq.symm
      rw [hol3]
      refine WL_nil ?_
      refine WQ_code ?_
      refine WC_seq ?_
      refine WC_seq ?_
      refine WC_region ?_
      refine WL_val rfl rfl rfl (R_move rfl rfl) ?_
      refine WL_val rfl rfl rfl (R_len rfl Try.underlying78 rfl) ?_
      refine WL_val rfl rfl rfl (R_move rfl rfl) ?_
      refine WL_nil ?_
      refine WQ_code ?_
      refine WC_block ?_
      have hol := old_len (s.adv1 now) now
      have hal := allI_len 3 (s.adv1 now).C
      rw [hy.cl] at hal
      refine WC_loopF (G := AdW) [12, 61, 62, 63, 64, 65, 66, 67, 68, 69, 70, 71] (fun z => z.k ≤ ((s.adv1 now).old now).length ∧ PIs z.m ((((s.adv1 now).old now).take z.k).foldl PS.shut (s.adv1 now)) ∧ z.m.p = y.m.p) (fun z => [(61, .int .i64 (z.k : Int))]) (fun z => poH z.m ((((s.adv1 now).old now).take z.k).foldl PS.shut (s.adv1 now))) (fun z => ((s.adv1 now).old now).length - z.k) (⟨0, y.m⟩) (⟨Nat.zero_le _, hy, rfl⟩) leZ (pqZ) ?_
      rintro z ⟨hzk, hz, hzp⟩
      rw [← hzp]
      have hEz := shuts_E (((s.adv1 now).old now).take z.k) (s.adv1 now)
      rw [List.length_take] at hEz
      refine WC_seq ?_
      refine WC_region ?_
      refine WL_val rfl rfl rfl (R_lss rfl rfl rfl) ?_
      refine WL_nil ?_
      refine WQ_code ?_
      refine WC_seq ?_
      refine WC_dec rfl (fun c3 => ?_) (fun c3 => ?_)
      · refine WC_skip ?_
        refine WQ_code ?_
        refine WC_seq ?_
        refine WC_block ?_
        refine WC_seq ?_
        refine WC_region ?_
        obtain ⟨wb, hwb⟩ := own3.some_of (by omega)
        obtain ⟨c, hc⟩ := getE (T := (s.adv1 now).old now) (i := z.k) (by omega)
        obtain ⟨i9, x9, rfl, hx9, _⟩ := allI_mem (old_mem (List.mem_of_getElem? hc)).1
        have hi64 : i9 < 64 := by have := (List.getElem?_eq_some_iff.1 hx9).1; rw [hy.cl] at this; exact this
        have hsh := (pshut_eq ((((s.adv1 now).old now).take z.k).foldl PS.shut (s.adv1 now)) i9).symm
        refine WL_val rfl rfl rfl (R_idxO hwb rfl Try.underlying78 Try.sizeOf3 rfl rfl (by omega)) ?_
        refine WL_val rfl rfl rfl (R_loadO (v := .int .i64 (i9 : Int)) hwb rfl sc3 rfl (mmZ) (fm_get0 encI1 hc (j := 0) (by omega))) ?_
        refine WL_val rfl rfl rfl (R_assign rfl rfl) ?_
        refine WL_nil ?_
        refine WQ_code ?_
        refine WC_seq ?_
        refine WC_region ?_
        refine WL_val rfl rfl rfl (R_load rfl sc23 rfl (mmZ) rfl) ?_
        refine WL_val rfl rfl rfl (R_move rfl rfl) ?_
        refine WL_do rfl rfl rfl (D_call (ptellH_ok hz 5 (-1) (i9 : Int) (by omega)) rfl rfl rfl rfl (pqZ)) ?_
        rintro _ _ ⟨_, ⟨m3, rfl, rfl, hp3, h3m⟩, rfl⟩
        rw [← hp3]
        refine WL_nil ?_
        refine WQ_code ?_
        refine WC_region ?_
        refine WL_val rfl rfl rfl (R_load rfl sc23 rfl (mmZ) rfl) ?_
        refine WL_val rfl rfl rfl (R_move rfl rfl) ?_
        refine WL_do rfl rfl rfl (D_call (plose_ok h3m i9 (by omega) (by show (_ ++ [_]).length ≤ _; rw [List.length_append]; simp; omega)) rfl rfl rfl rfl (pqZ)) ?_
        rintro _ _ ⟨_, ⟨m2, rfl, rfl, hp2, h2⟩, rfl⟩
        refine WL_nil ?_
        refine WQ_code ?_
        refine WC_region ?_
        refine WL_val rfl rfl rfl (R_add rfl rfl rfl (by omega)) ?_
        refine WL_val rfl rfl rfl (R_move rfl rfl) ?_
        refine WL_nil ?_
        rw [hsh, ← shut_next hc]
        refine WQ_nextF (⟨z.k + 1, m2⟩) (⟨by dsimp only; omega, by dsimp only; rw [shut_next hc, ← hsh]; exact h2, by first | rfl | exact hp2⟩) (by dsimp only; omega) leZ (psZ) rfl (pqZ)
      · have hzl : z.k = ((s.adv1 now).old now).length := by omega
        refine WC_exit ?_
        refine WQ_code ?_
        refine WC_seq ?_
        refine WC_region ?_
        refine WL_val rfl rfl rfl (R_assign rfl rfl) ?_
        refine WL_nil ?_
        refine WQ_code ?_
        refine WC_ret ?_
        rw [hzl, List.take_length] at hz
        rw [hzl, List.take_length]
        refine WQ_ret rfl rfl (.cons (.tmp rfl) .nil) rfl (by
            exact ⟨z.m, congrArg (Value.int .i64) hm.symm, by rw [adv_ok hm], by first | rfl | exact hzp, by rw [adv_ok hm]; exact hz⟩) (pqZ)

end Go.Proofs.Yteofigbgdbpjgaa
