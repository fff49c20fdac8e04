/-
  Chapter 46 (pool), part PoolH: contracts of functions that the laws call, each for the heap it names.
-/
import Derived.Test.YteofigbgdbpjgaaRows
import Derived.Test.YteofigbgdbpjgaaZB
import Derived.Test.YteofigbgdbpjgaaSLMapJ
import Derived.Test.YteofigbgdbpjgaaSLScope
import Derived.Test.YteofigbgdbpjgaaTab
import Derived.Test.YteofigbgdbpjgaaPoolC
import Derived.Test.YteofigbgdbpjgaaPoolP
import Derived.Test.YteofigbgdbpjgaaSLStay
set_option linter.unusedVariables false
set_option maxRecDepth 20000
set_option maxHeartbeats 1000000
namespace Go.Proofs.Yteofigbgdbpjgaa


theorem pnext_none {m : PM} {s : PS} (h : PIs m s) (hE : s.E = []) : Spec Try.prog 23 [ptrP m.p] (poH m s) (fun r H' => r = .tuple #[.agg #[.int .i64 0, .int .i64 0, .int .i64 0], .bool false] ∧ H' = poH m s) := by
  refine Spec.of (E := [(0, ptrP m.p)]) Try.func23 rfl (by kernel_rfl) Try.ntmps23 rfl rfl (fun w => ?_)
  refine WC_seq ?_
  refine WC_region ?_
  refine WL_do rfl rfl rfl (D_alloc rfl zv44) ?_
  rintro _ _ ⟨b1, rfl, rfl⟩
  refine WL_val rfl rfl rfl (R_assign rfl rfl) ?_
  refine WL_nil ?_
  refine WQ_code ?_
  refine WC_seq ?_
  refine WC_seq ?_
  refine WC_region ?_
  refine WL_val rfl rfl rfl (R_move rfl rfl) ?_
  refine WL_do rfl rfl rfl (D_call (pnone_ok h) rfl rfl rfl rfl (pqZ)) ?_
  rintro _ _ ⟨_, ⟨rfl, rfl⟩, rfl⟩
  refine WL_val rfl rfl rfl (R_move rfl rfl) ?_
  refine WL_val rfl rfl rfl (R_move rfl rfl) ?_
  refine WL_val rfl rfl rfl (R_nilCheck rfl rfl) ?_
  refine WL_val rfl rfl rfl (R_fieldAddr rfl fa71_7 rfl) ?_
  refine WL_val rfl rfl rfl (R_load (v := sVal m.eb m.ek s.E.length m.ec) rfl sc56 rfl (mmZ) (pc_t h.cl rfl 2)) ?_
  refine WL_val rfl rfl rfl (R_lenS rfl Try.underlying56 rfl) ?_
  refine WL_val rfl rfl rfl (R_eql rfl rfl rfl) ?_
  refine WL_val rfl rfl rfl (R_pickF rfl rfl rfl) ?_
  refine WL_nil ?_
  refine WQ_code ?_
  refine WC_dT rfl (by rw [hE]; rfl) ?_
  refine WC_seq ?_
  refine WC_region ?_
  refine WL_val rfl rfl rfl (R_build rfl zv44 pl44 rfl rfl) ?_
  refine WL_do0 rfl rfl (D_store (vs := [_, _, _]) rfl Try.sizeOf44 rfl rfl rfl rfl rfl (plZ) (by exact Nat.le_of_ble_eq_true rfl)) ?_
  rintro _ _ rfl
  refine WL_val rfl rfl rfl (R_assign rfl rfl) ?_
  refine WL_nil ?_
  refine WQ_code ?_
  refine WC_ret ?_
  refine WQ_ret rfl rfl (.cons (.cell (vs := [_, _, _]) rfl ag44 (mmZ) rfl (atZ)) (.cons (.tmp rfl) .nil)) rfl (by
      exact ⟨rfl, rfl⟩) (pqZ)
theorem pnext_some {m : PM} {s : PS} (h : PIs m s) {x : Pv} {r : List Pv} (hE : s.E = x :: r) : Spec Try.prog 23 [ptrP m.p] (poH m s) (fun v H' => ∃ m', v = .tuple #[pvV x, .bool true] ∧ H' = poH m' s.nx ∧ m'.p = m.p ∧ PIs m' s.nx) := by
  have hnx : s.nx = { s with E := r } := by unfold PS.nx; rw [hE]; rfl
  have heO := h.eO
  rw [hE] at heO
  obtain ⟨wb, hwb⟩ := heO.some_of (Nat.succ_pos _)
  have hlen : s.E.length = r.length + 1 := by rw [hE]; rfl
  rw [hnx]
  refine Spec.of (E := [(0, ptrP m.p)]) Try.func23 rfl (by kernel_rfl) Try.ntmps23 rfl rfl (fun w => ?_)
  refine WC_seq ?_
  refine WC_region ?_
  refine WL_do rfl rfl rfl (D_alloc rfl zv44) ?_
  rintro _ _ ⟨b1, rfl, rfl⟩
  refine WL_val rfl rfl rfl (R_assign rfl rfl) ?_
  refine WL_nil ?_
  refine WQ_code ?_
  refine WC_seq ?_
  refine WC_seq ?_
  refine WC_region ?_
  refine WL_val rfl rfl rfl (R_move rfl rfl) ?_
  refine WL_do rfl rfl rfl (D_call (pnone_ok h) rfl rfl rfl rfl (pqZ)) ?_
  rintro _ _ ⟨_, ⟨rfl, rfl⟩, rfl⟩
  refine WL_val rfl rfl rfl (R_move rfl rfl) ?_
  refine WL_val rfl rfl rfl (R_move rfl rfl) ?_
  refine WL_val rfl rfl rfl (R_nilCheck rfl rfl) ?_
  refine WL_val rfl rfl rfl (R_fieldAddr rfl fa71_7 rfl) ?_
  refine WL_val rfl rfl rfl (R_load (v := sVal m.eb m.ek s.E.length m.ec) rfl sc56 rfl (mmZ) (pc_t h.cl rfl 2)) ?_
  refine WL_val rfl rfl rfl (R_lenS rfl Try.underlying56 rfl) ?_
  refine WL_val rfl rfl rfl (R_eql rfl rfl rfl) ?_
  refine WL_val rfl rfl rfl (R_pickF rfl rfl rfl) ?_
  refine WL_nil ?_
  refine WQ_code ?_
  refine WC_dF rfl (by omega) ?_
  refine WC_skip ?_
  refine WQ_code ?_
  refine WC_seq ?_
  refine WC_drawY [⟨some b1, _⟩, ⟨some m.p, _⟩] [(m.p, 198, sVal m.eb m.ek s.E.length m.ec)] [15] [(0, false), (1, false), (2, false), (3, false), (4, true), (5, false), (6, false), (7, false), (8, false), (9, false), (10, true)] [(11, true), (12, false), (13, true), (14, true), (15, false)] followsMixed rfl rfl (by kernel_rfl) (pqZ) (.cons (mmZ) (pc_t h.cl rfl 2) .nil) ?_
  refine WYE_val rfl rfl rfl rfl (R_move rfl rfl) ?_
  refine WYE_val rfl rfl rfl rfl (R_move rfl rfl) ?_
  refine WYE_val rfl rfl rfl rfl (R_nilCheck rfl rfl) ?_
  refine WYE_val rfl rfl rfl rfl (R_fieldAddr rfl fa71_7 rfl) ?_
  refine WYE_early rfl rfl rfl rfl rfl sc56 rfl (by repeat (first | exact List.Mem.head _ | refine List.Mem.tail _ ?_)) ?_
  refine WYE_val rfl rfl rfl rfl (R_indexS (i := 0) hwb rfl Try.underlying56 Try.sizeOf44 rfl rfl (by omega)) ?_
  refine WYE_val rfl rfl rfl rfl (R_loadAO (vs := [.int .i64 x.k, .int .i64 x.who, .int .i64 x.c]) hwb rfl ag44 rfl (mmZ) rfl (h.eO.atE (i := 0) (x := x) (by rw [hE]; rfl) (by omega))) ?_
  refine WYE_val rfl rfl rfl rfl (R_move rfl rfl) ?_
  refine WYE_val rfl rfl rfl rfl (R_nilCheck rfl rfl) ?_
  refine WYE_val rfl rfl rfl rfl (R_fieldAddr rfl fa71_7 rfl) ?_
  refine WYE_early rfl rfl rfl rfl rfl sc56 rfl (by repeat (first | exact List.Mem.head _ | refine List.Mem.tail _ ?_)) ?_
  refine WYE_rest ?_
  refine WY_val rfl rfl rfl rfl (R_cut1 (m := r.length) hwb rfl Try.underlying56 Try.sizeOf44 rfl rfl hlen) ?_
  refine WY_do0 rfl rfl rfl (D_store (vs := [_, _, _]) rfl Try.sizeOf44 rfl rfl rfl rfl rfl (plZ) (by exact Nat.le_of_ble_eq_true rfl)) ?_
  rintro _ _ rfl
  refine ⟨⟨_, pqZ⟩, .inr (.cons (mmZ) (pc_t h.cl rfl 2) .nil), ?_⟩
  refine WY_val rfl rfl rfl rfl (R_nilCheck rfl rfl) ?_
  refine WY_val rfl rfl rfl rfl (R_fieldAddr rfl fa71_7 rfl) ?_
  refine WY_do0 rfl rfl rfl (D_store (vs := [_]) rfl Try.sizeOf56 rfl rfl rfl rfl rfl (plZ) (by exact pc_roomT h.cl rfl (j := 2) (by show 2 < 3; decide))) ?_
  rintro _ _ rfl
  refine ⟨⟨_, pqZ⟩, .inl rfl, ?_⟩
  refine WY_nil ?_
  refine WQ_code ?_
  refine WC_seq ?_
  refine WC_region ?_
  refine WL_val rfl rfl rfl (R_loadA (vs := [_, _, _]) rfl ag44 rfl (mmZ) rfl (atZ)) ?_
  refine WL_do0 rfl rfl (D_store (vs := [_, _, _]) rfl Try.sizeOf44 rfl rfl rfl rfl rfl (plZ) (by exact Nat.le_of_ble_eq_true rfl)) ?_
  rintro _ _ rfl
  refine WL_val rfl rfl rfl (R_assign rfl rfl) ?_
  refine WL_nil ?_
  refine WQ_code ?_
  refine WC_ret ?_
  rw [show putAt (pC m s) _ _ = _ from pc_putT h.cl (A := pcH s) rfl 2 _, show poV m s = (⟨m.eb, cl ((m.epre ++ encV x) ++ (r.flatMap encV ++ m.etl)) 44⟩ : Ent) from by unfold poV; rw [hE]; simp]
  refine WQ_ret rfl rfl (.cons (.cell (vs := [_, _, _]) rfl ag44 (mmZ) rfl (atZ)) (.cons (.tmp rfl) .nil)) rfl (by
      exact ⟨{ m with ek := if m.ec = 1 then m.ek else m.ek + 3, ec := m.ec - 1, epre := m.epre ++ encV x }, rfl, rfl, rfl, h.ev (heO.cut (ys := encV x) (zs := r.flatMap encV) (m := r.length) rfl rfl rfl)⟩) (pqZ)
theorem pcounts_ok {m : PM} {s : PS} (h : PIs m s) : Spec Try.prog 11 [ptrP m.p] (poH m s) (fun r H' => r = .agg #[.int .i64 (s.cnt 2 : Int), .int .i64 (s.cnt 1 : Int), .int .i64 (s.cnt 3 : Int), .int .i64 (s.Q.length : Int)] ∧ H' = poH m s) := by
  refine Spec.of (E := [(0, ptrP m.p)]) Try.func11 rfl (by kernel_rfl) Try.ntmps11 rfl rfl (fun w => ?_)
  refine WC_seq ?_
  refine WC_region ?_
  refine WL_do rfl rfl rfl (D_alloc rfl zv33) ?_
  rintro _ _ ⟨b1, rfl, rfl⟩
  refine WL_nil ?_
  refine WQ_code ?_
  refine WC_seq ?_
  refine WC_seq ?_
  refine WC_region ?_
  refine WL_val rfl rfl rfl (R_move rfl rfl) ?_
  refine WL_do rfl rfl rfl (D_call (pnone_ok h) rfl rfl rfl rfl (pqZ)) ?_
  rintro _ _ ⟨_, ⟨rfl, rfl⟩, rfl⟩
  refine WL_nil ?_
  refine WQ_code ?_
  refine WC_F rfl ?_
  refine WC_skip ?_
  refine WQ_code ?_
  refine WC_seq ?_
  refine WC_draw (poH m s) [(0, true), (3, true), (6, true), (9, true), (10, true), (11, true), (12, true), (1, false), (2, true), (4, false), (5, true), (7, false), (8, true), (13, true), (14, true), (15, false)] followsMixed rfl rfl (by kernel_rfl) pqZ ?_
  refine WM_val rfl rfl rfl rfl (R_move rfl rfl) ?_
  refine WM_val rfl rfl rfl rfl (R_move rfl rfl) ?_
  refine WM_val rfl rfl rfl rfl (R_move rfl rfl) ?_
  refine WM_val rfl rfl rfl rfl (R_move rfl rfl) ?_
  refine WM_val rfl rfl rfl rfl (R_nilCheck rfl rfl) ?_
  refine WM_val rfl rfl rfl rfl (R_fieldAddr rfl fa71_5 rfl) ?_
  refine WM_val rfl rfl rfl rfl (R_load (v := ptrQ m.q) rfl sc68 rfl (mmZ) (pc_t h.cl rfl 0)) ?_
  refine WM_do rfl rfl rfl rfl (D_call (pall_ok h 2) rfl rfl rfl rfl (pqZ)) ?_
  rintro _ _ ⟨_, ⟨o2, c2, tl2, rfl, own2, rfl⟩, rfl⟩
  refine ⟨⟨_, pqZ⟩, ?_⟩
  refine WM_val rfl rfl rfl rfl (R_len rfl Try.underlying78 rfl) ?_
  refine WM_do rfl rfl rfl rfl (D_call (pall_ok h 1) rfl rfl rfl rfl (pqZ)) ?_
  rintro _ _ ⟨_, ⟨o1, c1, tl1, rfl, own1, rfl⟩, rfl⟩
  refine ⟨⟨_, pqZ⟩, ?_⟩
  refine WM_val rfl rfl rfl rfl (R_len rfl Try.underlying78 rfl) ?_
  refine WM_do rfl rfl rfl rfl (D_call (pall_ok h 3) rfl rfl rfl rfl (pqZ)) ?_
  rintro _ _ ⟨_, ⟨o3, c3, tl3, rfl, own3, rfl⟩, rfl⟩
  refine ⟨⟨_, pqZ⟩, ?_⟩
  refine WM_val rfl rfl rfl rfl (R_len rfl Try.underlying78 rfl) ?_
  refine WM_call rfl (Spec.quiet (qlen_ok m.q m.qm (fq s.Q) s.n m.qes m.qmc h.qk h.qM)) rfl rfl rfl rfl rfl rfl rfl (pqZ) ?_
  refine WM_val rfl rfl rfl rfl (R_build rfl zv33 pl33 rfl rfl) ?_
  refine WM_do0 rfl rfl rfl (D_store (vs := [_, _, _, _]) rfl Try.sizeOf33 rfl rfl rfl rfl rfl (plZ) (by exact Nat.le_of_ble_eq_true rfl)) ?_
  rintro _ _ rfl
  refine ⟨⟨_, pqZ⟩, ?_⟩
  refine WM_nil ?_
  refine WQ_code ?_
  refine WC_ret ?_
  refine WQ_ret rfl rfl (.cons (.cell (vs := [_, _, _, _]) rfl ag33 (mmZ) rfl (atZ)) .nil) rfl (by
      exact ⟨by show Value.agg _ = _; simp [PS.cnt], rfl⟩) (pqZ)

end Go.Proofs.Yteofigbgdbpjgaa
