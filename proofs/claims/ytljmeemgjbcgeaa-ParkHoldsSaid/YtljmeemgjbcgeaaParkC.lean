/-
  Chapter 09 (park), part ParkC: contracts of functions that the laws call, each for the heap it names.
-/
import Derived.Test.YtljmeemgjbcgeaaRows
import Derived.Test.YtljmeemgjbcgeaaZSLQueue
import Derived.Test.YtljmeemgjbcgeaaTab
import Derived.Test.YtljmeemgjbcgeaaParkCL
set_option linter.unusedVariables false
set_option maxRecDepth 20000
set_option maxHeartbeats 2000000
namespace Go.Proofs.Ytljmeemgjbcgeaa


theorem cseat_ok (bs c : Nat) (tl : List Value) (S : List (Sp × Nat)) (hl : 1 ≤ S.length ∧ S.length ≤ 64) : Spec Try.prog 56 [.slice (some ⟨bs, 0, none⟩) S.length c] [⟨some bs, cl (S.flatMap encSeat ++ tl) 81⟩]
    (fun r H' => ∃ b c2 tl2, r = .slice (some ⟨b, 0, none⟩) S.length c2 ∧ H' = [⟨some b, cl (S.flatMap encSeat ++ tl2) 81⟩, ⟨some bs, cl (S.flatMap encSeat ++ tl) 81⟩]) := by
  refine Spec.of (E := [(0, .slice (some ⟨bs, 0, none⟩) S.length c)]) Try.func56 rfl (by kernel_rfl) Try.ntmps56 rfl rfl (fun w => ?_)
  refine WC_seq ?_
  refine WC_region ?_
  refine WL_val rfl rfl rfl (R_assign rfl rfl) ?_
  refine WL_nil ?_
  refine WQ_code ?_
  refine WC_seq ?_
  refine WC_seq ?_
  refine WC_region ?_
  refine WL_val rfl rfl rfl (R_move rfl rfl) ?_
  refine WL_val rfl rfl rfl (R_sliceEqNil rfl Try.underlying66 rfl) ?_
  refine WL_nil ?_
  refine WQ_code ?_
  refine WC_F rfl ?_
  refine WC_skip ?_
  refine WQ_code ?_
  refine WC_seq ?_
  refine WC_region ?_
  refine WL_do rfl rfl rfl (D_buildSlice rfl si66 rfl rfl rfl) ?_
  rintro _ _ ⟨b1, rfl, rfl⟩
  refine WL_val rfl rfl rfl (R_move rfl rfl) ?_
  refine WL_do rfl rfl rfl (D_append rfl si66 rfl ((⟨by simp, by simp, by simp, by simp, fun h => by cases h⟩ : Own (some b1) 0 0 3 [] [])) (plY) rfl (mmY) ((fun j v hj => by rw [Nat.zero_add, List.getElem?_append_left (List.getElem?_eq_some_iff.1 hj).1]; exact hj : At (S.flatMap encSeat ++ tl) 0 (S.flatMap encSeat))) (fm_length encSeat3 S) (fm_all (fun _ => rfl) S) (by omega) (by omega)) ?_
  rintro _ _ ⟨ob2, cap2, tl2, rfl, own2, rfl⟩
  obtain ⟨b9, rfl⟩ := own2.some_of (by omega)
  rw [show 0 + S.length = S.length from by omega, List.nil_append]
  refine WL_val rfl rfl rfl (R_assign rfl rfl) ?_
  refine WL_nil ?_
  refine WQ_code ?_
  refine WC_ret ?_
  refine WQ_ret rfl rfl (.cons (.tmp rfl) .nil) rfl (by
      exact ⟨b9, cap2, tl2, rfl, rfl⟩) (pqY)
theorem pk_copy (N : Nat) (s : PS) (l : PkM) (hl : PkIs N s l) : Spec Try.prog 29 [ptrQ l.p] (pkH l) (fun r H' => ∃ l2 : PkM, r = ptrQ l2.p ∧ H' = pkH l2 ++ pkH l ∧ PkIs N s l2) := by
  have htl := hl.tk.len
  have hsl := hl.ln
  refine Spec.of (E := [(0, ptrQ l.p)]) Try.func29 rfl (by kernel_rfl) Try.ntmps29 rfl rfl (fun w => ?_)
  refine WC_seq ?_
  refine WC_region ?_
  refine WL_val rfl rfl rfl (R_assign rfl rfl) ?_
  refine WL_nil ?_
  refine WQ_code ?_
  refine WC_seq ?_
  refine WC_seq ?_
  refine WC_region ?_
  refine WL_val rfl rfl rfl (R_move rfl rfl) ?_
  refine WL_do rfl rfl rfl (D_call (pk_zero l) rfl rfl rfl rfl (pqY)) ?_
  rintro _ _ ⟨_, ⟨rfl, rfl⟩, rfl⟩
  refine WL_nil ?_
  refine WQ_code ?_
  refine WC_F rfl ?_
  refine WC_skip ?_
  refine WQ_code ?_
  refine WC_seq ?_
  refine WC_drawB _ [(0, .q), (1, .q), (2, .q), (3, .q), (5, .q), (6, .q), (7, .q), (8, .q), (4, .n [10]), (9, .n [10]), (10, .b []), (11, .q), (12, .b []), (13, .q)] followsMixed rfl rfl (by kernel_rfl) .all ?_
  refine WB_val rfl rfl rfl rfl (R_move rfl rfl) ?_
  refine WB_val rfl rfl rfl rfl (R_nilCheck rfl rfl) ?_
  refine WB_val rfl rfl rfl rfl (R_fieldAddr rfl fa69_0 rfl) ?_
  refine WB_val rfl rfl rfl rfl (R_load rfl sc65 rfl (mmY) rfl) ?_
  refine WB_val rfl rfl rfl rfl (R_move rfl rfl) ?_
  refine WB_val rfl rfl rfl rfl (R_nilCheck rfl rfl) ?_
  refine WB_val rfl rfl rfl rfl (R_fieldAddr rfl fa69_1 rfl) ?_
  refine WB_val rfl rfl rfl rfl (R_load rfl sc66 rfl (mmY) rfl) ?_
  refine WB_do rfl rfl rfl rfl (.cons rfl rfl (B_makeMap rfl) .nil) (fun _ => D_call (tk_copy l.t s.sm s.qm hl.tk) rfl rfl rfl rfl (pqY)) ?_
  rintro _ _ ⟨_, ⟨t', rfl, rfl, htn', ht'⟩, rfl⟩
  refine ⟨⟨_, pqY⟩, ?_⟩
  refine WB_do rfl rfl rfl rfl (.cons rfl rfl (B_makeMap rfl) .nil) (fun _ => D_call (cseat_ok l.bs l.cs l.ts l.seats (by omega)) rfl rfl rfl rfl (pqY)) ?_
  rintro _ _ ⟨_, ⟨bs2, cs2, ts2, rfl, rfl⟩, rfl⟩
  refine ⟨⟨_, pqY⟩, ?_⟩
  refine WB_birth rfl rfl rfl rfl .nil (B_makeMap rfl) (fun b1 => ?_)
  refine WB_val rfl rfl rfl rfl (R_build rfl zv69 pl69 rfl rfl) ?_
  refine WB_birth rfl rfl rfl rfl .nil (B_box (cs := [_, _, _]) rfl rfl rfl) (fun b2 => ?_)
  refine WB_val rfl rfl rfl rfl (R_assign rfl rfl) ?_
  refine WB_nil ?_
  refine WQ_code ?_
  refine WC_seq ?_
  refine WC_seq ?_
  refine WC_region ?_
  refine WL_val rfl rfl rfl (R_move rfl rfl) ?_
  refine WL_val rfl rfl rfl (R_nilCheck rfl rfl) ?_
  refine WL_val rfl rfl rfl (R_fieldAddr rfl fa69_2 rfl) ?_
  refine WL_val rfl rfl rfl (R_load rfl sc67 rfl (mmY) rfl) ?_
  refine WL_do rfl rfl rfl (D_rangeMap rfl Try.underlying67 rfl (mmY)) ?_
  rintro _ _ ⟨bi, rfl, rfl⟩
  refine WL_nil ?_
  refine WQ_code ?_
  refine WC_block ?_
  refine WC_loopF (G := CpW) [4, 5, 26, 27, 28, 29, 30, 31, 32, 33, 34, 35, 36, 37] (fun y => Cp l y.seen y.QL ∧ Mk ekS evP y.mes y.mc y.QL) (fun y => []) (fun y => ⟨some bi, .mapIter (some l.mb) l.mc y.seen l.mc⟩ :: ⟨some b1, .map y.mes y.mc⟩ :: qsH y.QL) (fun y => l.QL.length - y.QL.length) (⟨#[], #[], 0, []⟩) (⟨Cp.new l, Mk.empty⟩) leZ (pqY) ?_
  rintro y ⟨hcp, hM⟩
  refine WC_seq ?_
  refine WC_region ?_
  refine WL_do rfl rfl rfl (D_nextMap rfl rfl (plY) (mmY) hl.mpk.born) ?_
  rintro _ _ (⟨rfl, rfl, hall⟩ | ⟨e, he, hns, rfl, rfl⟩)
  · refine WL_val rfl rfl rfl (R_extract rfl rfl rfl) ?_
    refine WL_set (s := 27) (v := .bool false) rfl (by rfl) ?_
    refine WL_nil ?_
    refine WQ_code ?_
    refine WC_seq ?_
    refine WC_F rfl ?_
    refine WC_exit ?_
    refine WQ_code ?_
    refine WC_seq ?_
    refine WC_region ?_
    refine WL_val rfl rfl rfl (R_move rfl rfl) ?_
    refine WL_val rfl rfl rfl (R_assign rfl rfl) ?_
    refine WL_nil ?_
    refine WQ_code ?_
    refine WC_ret ?_
    refine WQ_ret rfl rfl (.cons (.tmp rfl) .nil) rfl (by
        exact ⟨⟨b2, bs2, b1, t', l.seats, cs2, ts2, y.mes, y.mc, y.QL⟩, rfl, rfl, hcp.done hl hall hM ht' htn' _ _ _ _ _⟩) (pqY)
  · refine WL_val rfl rfl rfl (R_extract rfl rfl rfl) ?_
    refine WL_set (s := 27) (v := .bool true) rfl (by rfl) ?_
    refine WL_nil ?_
    refine WQ_code ?_
    refine WC_seq ?_
    refine WC_T rfl ?_
    refine WC_skip ?_
    refine WQ_code ?_
    refine WC_block ?_
    refine WC_seq ?_
    refine WC_region ?_
    obtain ⟨⟨k, q⟩, hx, hek, hev⟩ := hl.mpk.back he
    dsimp only at hek hev
    have hkno := hcp.fresh he hns hek
    refine WL_val rfl rfl rfl (R_entryMap rfl rfl (mmY) (mmY) he hl.mpk.bnd) ?_
    rw [hek, hev]
    refine WL_val rfl rfl rfl (R_extract rfl rfl rfl) ?_
    refine WL_val rfl rfl rfl (R_extract rfl rfl rfl) ?_
    refine WL_do rfl rfl rfl (D_alloc rfl zv25) ?_
    rintro _ _ ⟨b3, rfl, rfl⟩
    refine WL_do0 rfl rfl (D_store (vs := [_, _]) rfl Try.sizeOf25 rfl rfl rfl rfl rfl (plY) (by exact Nat.le_of_ble_eq_true rfl)) ?_
    rintro _ _ rfl
    refine WL_val rfl rfl rfl (R_assign rfl rfl) ?_
    refine WL_nil ?_
    refine WQ_code ?_
    refine WC_drawR [⟨some b1, _⟩] [(0, true), (1, true), (2, true), (3, true), (4, true), (5, true), (6, false), (7, false)] followsMixed rfl rfl (by kernel_rfl) (pqY) ?_
    refine WM_val rfl rfl rfl rfl (R_move rfl rfl) ?_
    refine WM_val rfl rfl rfl rfl (R_nilCheck rfl rfl) ?_
    refine WM_val rfl rfl rfl rfl (R_fieldAddr rfl fa69_2 rfl) ?_
    refine WM_val rfl rfl rfl rfl (R_load rfl sc67 rfl (mmY) rfl) ?_
    refine WM_val rfl rfl rfl rfl (R_loadA (vs := [_, _]) rfl ag25 rfl (mmY) rfl (atZ)) ?_
    refine WM_val rfl rfl rfl rfl (R_move rfl rfl) ?_
    refine WM_do rfl rfl rfl rfl (D_call (qcopy_in l.QL (k, q) hx) rfl rfl rfl rfl (pqY)) ?_
    rintro _ _ ⟨_, ⟨q', rfl, hq1, hq2, hq3, rfl⟩, rfl⟩
    refine ⟨⟨_, pqY⟩, ?_⟩
    refine WM_do0 rfl rfl rfl (D_mapAddK (k := k) (v := q') rfl Try.underlying67 spot_key rfl rfl rfl (plY) hM hkno) ?_
    rintro _ _ ⟨mes', hM', rfl⟩
    refine ⟨⟨_, pqY⟩, ?_⟩
    have hcp' := hcp.next hl he hek hx hq1 hq2 hq3
    have hlen' := hcp'.len hM'.nodup
    rw [List.length_cons] at hlen'
    refine WM_nil ?_
    refine WQ_nextF (gg := y) (⟨y.seen.push e.born, mes', y.mc + 1, (k, q') :: y.QL⟩) (⟨hcp', hM'⟩) (by dsimp only; rw [List.length_cons]; omega) leZ (psZ) rfl (pqY)

end Go.Proofs.Ytljmeemgjbcgeaa
