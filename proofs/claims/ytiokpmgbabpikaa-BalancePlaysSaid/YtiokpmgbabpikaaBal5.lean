/-
  Chapter 48 (balance), part Bal5: contracts of functions that the laws call, each for the heap it names.
-/
import Derived.Test.YtiokpmgbabpikaaRows
import Derived.Test.YtiokpmgbabpikaaZSLOpt
import Derived.Test.YtiokpmgbabpikaaTab
import Derived.Test.YtiokpmgbabpikaaBal4
set_option linter.unusedVariables false
set_option maxRecDepth 20000
set_option maxHeartbeats 4000000
namespace Go.Proofs.Ytiokpmgbabpikaa


theorem vw_mem {L L2 : List Bk} (hv : L2.map vw = L.map vw) {x : Bk} (hx : x ∈ L2) : ∃ y ∈ L, x = { y with p := x.p } := by
  have h := List.mem_map_of_mem (f := vw) hx
  rw [hv] at h
  obtain ⟨y, hy, e⟩ := List.mem_map.1 h
  refine ⟨y, hy, ?_⟩
  unfold vw at e
  simp only [Prod.mk.injEq] at e
  obtain ⟨e1, e2, e3, e4, e5⟩ := e
  cases x; cases y
  simp_all
theorem vw_get {L L2 : List Bk} (hv : L2.map vw = L.map vw) {i : Nat} {x : Bk} (hx : L2[i]? = some x) : ∃ y, L[i]? = some y ∧ x = { y with p := x.p } := by
  have h : (L2.map vw)[i]? = some (vw x) := by rw [List.getElem?_map, hx]; rfl
  rw [hv, List.getElem?_map] at h
  cases hy : L[i]? with
  | none => rw [hy] at h; cases h
  | some y =>
    rw [hy] at h
    refine ⟨y, rfl, ?_⟩
    have e : vw y = vw x := Option.some.inj h
    unfold vw at e
    simp only [Prod.mk.injEq] at e
    obtain ⟨e1, e2, e3, e4, e5⟩ := e
    cases x; cases y
    simp_all
theorem BalIs.view {N : Nat} {m m2 : Bm} {C : List Cl} (hm : BalIs N m C) (hv : m2.L.map vw = m.L.map vw) (hn : m2.n = m.n) (ow : Own (some m2.ob) m2.n m2.oc 5 (m2.L.flatMap encB) m2.tl) (mp : Mp (.int .i64) ekI evC m2.es C) (hk : m2.k = m.k) (hx : m2.nx = m.nx) (hg : m2.gv = m.gv) (hl : m2.last = m.last) : BalIs N m2 C := by
  refine ⟨?_, ow, mp, by rw [hk]; exact hm.k, by rw [hn]; exact hm.n, ?_, ?_, ?_, ?_, by rw [hx, hn]; exact hm.nx, by rw [hg]; exact hm.gv, hm.cl, by rw [hg]; exact hm.ky, by rw [hn]; exact hm.bk, ?_, by rw [hl]; exact hm.last⟩
  · have := congrArg List.length hv
    rw [List.length_map, List.length_map] at this
    rw [this, hn]; exact hm.hn
  · intro x hx2; obtain ⟨y, hy, e⟩ := vw_mem hv hx2; rw [e, hl]; exact hm.fit y hy
  · intro x hx2; obtain ⟨y, hy, e⟩ := vw_mem hv hx2; rw [e]; exact hm.w y hy
  · intro x hx2; obtain ⟨y, hy, e⟩ := vw_mem hv hx2; rw [e]; exact hm.sh y hy
  · intro x hx2; obtain ⟨y, hy, e⟩ := vw_mem hv hx2; rw [e]; exact hm.act y hy
  · intro c hc
    refine ⟨(hm.gn c hc).1, fun x hx2 => ?_⟩
    obtain ⟨y, hy, e⟩ := vw_get hv hx2
    rw [e]; exact (hm.gn c hc).2 y hy
structure CpW where
  k : Nat
  L : List Bk
  B : Heap
theorem bcopy_ok (m : Bm) (N : Nat) (C : List Cl) (hm : BalIs N m C) : Spec Try.prog 20 [ptrB m.p] (balH m) (fun r H' => ∃ m2, r = ptrB m2.p ∧ H' = bE1 m2 :: bE2 m2 :: bE3 m2 :: (bks m2.L ++ balH m) ∧ BalIs N m2 C ∧ m2.k = m.k ∧ m2.n = m.n ∧ m2.nx = m.nx ∧ m2.gv = m.gv ∧ m2.last = m.last ∧ m2.L.map vw = m.L.map vw) := by
  have hnn := hm.n
  refine Spec.of (E := [(0, ptrB m.p)]) Try.func20 rfl (by kernel_rfl) Try.ntmps20 rfl rfl (fun w => ?_)
  refine WC_seq ?_
  refine WC_region ?_
  refine WL_val rfl rfl rfl (R_assign rfl rfl) ?_
  refine WL_nil ?_
  refine WQ_code ?_
  refine WC_seq ?_
  refine WC_seq ?_
  refine WC_region ?_
  refine WL_val rfl rfl rfl (R_move rfl rfl) ?_
  refine WL_val rfl rfl rfl (R_ptrEqNil rfl Try.underlying31 rfl) ?_
  refine WL_val rfl rfl rfl (R_move rfl rfl) ?_
  refine WL_val rfl rfl rfl (R_move rfl rfl) ?_
  refine WL_val rfl rfl rfl (R_nilCheck rfl rfl) ?_
  refine WL_val rfl rfl rfl (R_fieldAddr rfl fa57_4 rfl) ?_
  refine WL_val rfl rfl rfl (R_load rfl sc55 rfl (mmY) rfl) ?_
  refine WL_val rfl rfl rfl (R_mapEqNil rfl Try.underlying55 rfl) ?_
  refine WL_set (s := 12) (v := .bool false) rfl (by rfl) ?_
  refine WL_val rfl rfl rfl (R_pickF rfl rfl rfl) ?_
  refine WL_nil ?_
  refine WQ_code ?_
  refine WC_F rfl ?_
  refine WC_skip ?_
  refine WQ_code ?_
  refine WC_seq ?_
  refine WC_region ?_
  refine WL_val rfl rfl rfl (R_move rfl rfl) ?_
  refine WL_val rfl rfl rfl (R_nilCheck rfl rfl) ?_
  refine WL_val rfl rfl rfl (R_loadA (vs := [_, _, _, _, _, _]) rfl ag57 rfl (mmY) rfl (atZ)) ?_
  refine WL_do rfl rfl rfl (D_alloc rfl zv57) ?_
  rintro _ _ ⟨b1, rfl, rfl⟩
  refine WL_do0 rfl rfl (D_store (vs := [_, _, _, _, _, _]) rfl Try.sizeOf57 rfl rfl rfl rfl rfl (plY) (by exact Nat.le_of_ble_eq_true rfl)) ?_
  rintro _ _ rfl
  refine WL_nil ?_
  refine WQ_code ?_
  refine WC_seq ?_
  refine WC_drawR (⟨some b1, _⟩ :: bE2 m :: [bE3 m]) [(0, true), (1, true), (2, true), (3, true), (5, true), (6, true), (7, true), (8, true), (4, false), (9, false), (10, true), (11, false), (12, true), (13, false)] followsMixed rfl rfl (by kernel_rfl) (pqY) ?_
  refine WM_val rfl rfl rfl rfl (R_move rfl rfl) ?_
  refine WM_val rfl rfl rfl rfl (R_nilCheck rfl rfl) ?_
  refine WM_val rfl rfl rfl rfl (R_fieldAddr rfl fa57_4 rfl) ?_
  refine WM_val rfl rfl rfl rfl (R_load rfl sc55 rfl (mmY) rfl) ?_
  refine WM_val rfl rfl rfl rfl (R_move rfl rfl) ?_
  refine WM_val rfl rfl rfl rfl (R_nilCheck rfl rfl) ?_
  refine WM_val rfl rfl rfl rfl (R_fieldAddr rfl fa57_1 rfl) ?_
  refine WM_val rfl rfl rfl rfl (R_load rfl sc54 rfl (mmY) rfl) ?_
  refine WM_do rfl rfl rfl rfl (D_call (bmc_ok m.mb m.es m.mc) rfl rfl rfl rfl (pqY)) ?_
  rintro _ _ ⟨_, ⟨mb2, rfl, rfl⟩, rfl⟩
  refine ⟨⟨_, pqY⟩, ?_⟩
  refine WM_do rfl rfl rfl rfl (D_call (bclone_ok m.ob m.n m.oc m.tl m.L ⟨hm.hn, hnn.2⟩) rfl rfl rfl rfl (pqY)) ?_
  rintro _ _ ⟨_, ⟨o2, c2, t2, rfl, own2, rfl⟩, rfl⟩
  refine ⟨⟨_, pqY⟩, ?_⟩
  refine WM_val rfl rfl rfl rfl (R_fieldAddr rfl fa57_4 rfl) ?_
  refine WM_do0 rfl rfl rfl (D_store (vs := [_]) rfl Try.sizeOf55 rfl rfl rfl rfl rfl (plY) (by exact Nat.le_of_ble_eq_true rfl)) ?_
  rintro _ _ rfl
  refine ⟨⟨_, pqY⟩, ?_⟩
  refine WM_val rfl rfl rfl rfl (R_fieldAddr rfl fa57_1 rfl) ?_
  refine WM_do0 rfl rfl rfl (D_store (vs := [_]) rfl Try.sizeOf54 rfl rfl rfl rfl rfl (plY) (by exact Nat.le_of_ble_eq_true rfl)) ?_
  rintro _ _ rfl
  refine ⟨⟨_, pqY⟩, ?_⟩
  refine WM_nil ?_
  refine WQ_code ?_
  refine WC_seq ?_
  refine WC_seq ?_
  refine WC_region ?_
  refine WL_val rfl rfl rfl (R_fieldAddr rfl fa57_1 rfl) ?_
  refine WL_val rfl rfl rfl (R_load rfl sc54 rfl (mmY) rfl) ?_
  refine WL_val rfl rfl rfl (R_len rfl Try.underlying54 rfl) ?_
  refine WL_val rfl rfl rfl (R_move rfl rfl) ?_
  refine WL_nil ?_
  refine WQ_code ?_
  refine WC_block ?_
  obtain ⟨w2, rfl⟩ := own2.some_of (by omega)
  refine WC_loopF (G := CpW) [4, 32, 33, 34, 35, 36, 37, 38, 39, 40, 41, 42, 43, 44, 45, 46, 47, 48, 49] (fun y => y.k ≤ m.n ∧ y.L.length = m.n ∧ y.L.map vw = m.L.map vw ∧ y.B = bks (y.L.take y.k) ∧ ∀ i, y.k ≤ i → y.L[i]? = m.L[i]?) (fun y => [(32, .int .i64 (y.k : Int))]) (fun y => ⟨some w2, cl (y.L.flatMap encB ++ t2) 73⟩ :: y.B) (fun y => m.n - y.k) (⟨0, m.L, []⟩) (⟨Nat.zero_le _, hm.hn, rfl, rfl, fun _ _ => rfl⟩) leZ (pqY) ?_
  rintro y ⟨hyk, hyl, hyv, hyB, hyr⟩
  refine WC_seq ?_
  refine WC_region ?_
  refine WL_val rfl rfl rfl (R_lss rfl rfl rfl) ?_
  refine WL_nil ?_
  refine WQ_code ?_
  refine WC_seq ?_
  refine WC_dec rfl (fun c1 => ?_) (fun c1 => ?_)
  · refine WC_skip ?_
    refine WQ_code ?_
    refine WC_seq ?_
    refine WC_block ?_
    refine WC_seq ?_
    refine WC_region ?_
    have hk9 : y.k < m.n := by omega
    obtain ⟨x9, hx9⟩ := getE (T := m.L) (i := y.k) (by rw [hm.hn]; exact hk9)
    have hfx := hm.fit x9 (List.mem_of_getElem? hx9)
    have hy9 : y.L[y.k]? = some x9 := (hyr y.k (Nat.le_refl _)).trans hx9
    have hyll : y.k < y.L.length := by omega
    refine WL_val rfl rfl rfl (R_move rfl rfl) ?_
    refine WL_val rfl rfl rfl (R_assign rfl rfl) ?_
    refine WL_nil ?_
    refine WQ_code ?_
    refine WC_drawR (⟨some w2, _⟩ :: bks m.L) [(0, true), (1, true), (2, true), (3, true), (4, true), (5, true), (6, true), (7, true), (8, true), (9, true), (10, true), (11, false), (12, true), (13, true), (14, false)] followsMixed rfl rfl (by kernel_rfl) (pqY) ?_
    refine WM_val rfl rfl rfl rfl (R_fieldAddr rfl fa57_1 rfl) ?_
    refine WM_val rfl rfl rfl rfl (R_load rfl sc54 rfl (mmY) rfl) ?_
    refine WM_val rfl rfl rfl rfl (R_move rfl rfl) ?_
    refine WM_val rfl rfl rfl rfl (R_move rfl rfl) ?_
    refine WM_val rfl rfl rfl rfl (R_nilCheck rfl rfl) ?_
    refine WM_val rfl rfl rfl rfl (R_fieldAddr rfl fa57_1 rfl) ?_
    refine WM_val rfl rfl rfl rfl (R_load rfl sc54 rfl (mmY) rfl) ?_
    refine WM_val rfl rfl rfl rfl (R_move rfl rfl) ?_
    refine WM_val rfl rfl rfl rfl (R_indexAddrN rfl Try.underlying54 Try.sizeOf73 rfl rfl (by omega)) ?_
    refine WM_val rfl rfl rfl rfl (R_fieldAddr rfl fa73_4 rfl) ?_
    refine WM_val rfl rfl rfl rfl (R_load (v := ptrB x9.p) rfl sc69 rfl (mmY) (fm_get0 encB5 hx9 (j := 4) (by omega))) ?_
    refine WM_do rfl rfl rfl rfl (D_call (copy_at hx9 hfx.1) rfl rfl rfl rfl (pqY)) ?_
    rintro _ _ ⟨_, ⟨p2, rfl, rfl⟩, rfl⟩
    refine ⟨⟨_, pqY⟩, ?_⟩
    refine WM_val rfl rfl rfl rfl (R_indexAddrN rfl Try.underlying54 Try.sizeOf73 rfl rfl (by omega)) ?_
    refine WM_val rfl rfl rfl rfl (R_fieldAddr rfl fa73_4 rfl) ?_
    refine WM_do0 rfl rfl rfl (D_store (vs := [_]) rfl Try.sizeOf69 rfl rfl rfl rfl rfl (plY) (by exact fm_room0 encB5 hyll (j := 4) (by omega))) ?_
    rintro _ _ rfl
    refine ⟨⟨_, pqY⟩, ?_⟩
    have hput := fm_put0 encB5 ({ x9 with p := p2 } : Bk) hy9 (j := 4) (vs := [ptrB p2]) (by simp) rfl (tl := t2)
    rw [hput]
    refine WM_nil ?_
    refine WQ_code ?_
    refine WC_region ?_
    refine WL_val rfl rfl rfl (R_add rfl rfl rfl (by omega)) ?_
    refine WL_val rfl rfl rfl (R_move rfl rfl) ?_
    refine WL_nil ?_
    refine WQ_nextF (⟨y.k + 1, y.L.set y.k { x9 with p := p2 }, y.B ++ [bkE { x9 with p := p2 }]⟩) (⟨by dsimp only; omega, by dsimp only; rw [List.length_set]; exact hyl, by dsimp only; rw [List.map_set, ← hyv]; exact set_same (by rw [List.getElem?_map, hy9]; rfl), by dsimp only; rw [take_next (x := { x9 with p := p2 }) (by rw [List.getElem?_set, if_pos rfl, if_pos hyll]), List.take_set_of_le (Nat.le_refl _), hyB]; unfold bks; rw [List.map_append]; rfl, fun i hi => by dsimp only at hi ⊢; rw [List.getElem?_set, if_neg (by omega)]; exact hyr i (by omega)⟩) (by dsimp only; omega) leZ (psZ) rfl (pqY)
  · rw [List.take_of_length_le (by omega)] at hyB
    rw [hyB]
    refine WC_exit ?_
    refine WQ_code ?_
    refine WC_seq ?_
    refine WC_region ?_
    refine WL_val rfl rfl rfl (R_assign rfl rfl) ?_
    refine WL_nil ?_
    refine WQ_code ?_
    refine WC_ret ?_
    refine WQ_ret rfl rfl (.cons (.tmp rfl) .nil) rfl (by
        refine ⟨⟨b1, m.k, m.n, w2, c2, t2, y.L, m.nx, m.gv, mb2, m.es, m.mc, m.last⟩, rfl, rfl, hm.view hyv rfl (own_L own2 (by rw [hyl, hm.hn])) hm.mp rfl rfl rfl rfl, rfl, rfl, rfl, rfl, rfl, hyv⟩) (pqY)

end Go.Proofs.Ytiokpmgbabpikaa
