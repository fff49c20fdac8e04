/-
  Chapter 46 (pool), part PoolI: contracts of functions that the laws call, each for the heap it names.
-/
import Derived.Test.YteofigbgdbpjgaaRows
import Derived.Test.YteofigbgdbpjgaaZB
import Derived.Test.YteofigbgdbpjgaaSLMapJ
import Derived.Test.YteofigbgdbpjgaaSLScope
import Derived.Test.YteofigbgdbpjgaaTab
import Derived.Test.YteofigbgdbpjgaaPoolF
import Derived.Test.YteofigbgdbpjgaaSLSliceB
set_option linter.unusedVariables false
set_option maxRecDepth 20000
set_option maxHeartbeats 1000000
namespace Go.Proofs.Yteofigbgdbpjgaa


theorem evcl_none {k c : Nat} {pre tl : List Value} {E : List Pv} (h : OwnS none k E.length c 3 pre (E.flatMap encV) tl) : Spec Try.prog 67 [sVal none k E.length c] [⟨none, cl (pre ++ (E.flatMap encV ++ tl)) 44⟩] (fun r H' => r = .slice none 0 0 ∧ H' = [⟨none, cl (pre ++ (E.flatMap encV ++ tl)) 44⟩]) := by
  refine Spec.of (E := [(0, sVal none k E.length c)]) Try.func67 rfl (by kernel_rfl) Try.ntmps67 rfl rfl (fun w => ?_)
  refine WC_seq ?_
  refine WC_region ?_
  refine WL_val rfl rfl rfl (R_assign rfl rfl) ?_
  refine WL_nil ?_
  refine WQ_code ?_
  refine WC_seq ?_
  refine WC_seq ?_
  refine WC_region ?_
  refine WL_val rfl rfl rfl (R_move rfl rfl) ?_
  refine WL_val rfl rfl rfl (R_sliceEqNil rfl Try.underlying56 rfl) ?_
  refine WL_nil ?_
  refine WQ_code ?_
  refine WC_T rfl ?_
  refine WC_seq ?_
  refine WC_region ?_
  refine WL_val rfl rfl rfl (R_assign rfl rfl) ?_
  refine WL_nil ?_
  refine WQ_code ?_
  refine WC_ret ?_
  refine WQ_ret rfl rfl (.cons (.tmp rfl) .nil) rfl (by
      exact ⟨rfl, rfl⟩) (pqZ)
theorem evcl_some {b k c : Nat} {pre tl : List Value} {E : List Pv} (h : OwnS (some b) k E.length c 3 pre (E.flatMap encV) tl) (hl : E.length ≤ 1000000) : Spec Try.prog 67 [sVal (some b) k E.length c] [⟨some b, cl (pre ++ (E.flatMap encV ++ tl)) 44⟩] (fun r H' => ∃ o2 c2 tl2, r = slV o2 E.length c2 ∧ Own o2 E.length c2 3 (E.flatMap encV) tl2 ∧ H' = [⟨o2, cl (E.flatMap encV ++ tl2) 44⟩, ⟨some b, cl (pre ++ (E.flatMap encV ++ tl)) 44⟩]) := by
  refine Spec.of (E := [(0, sVal (some b) k E.length c)]) Try.func67 rfl (by kernel_rfl) Try.ntmps67 rfl rfl (fun w => ?_)
  refine WC_seq ?_
  refine WC_region ?_
  refine WL_val rfl rfl rfl (R_assign rfl rfl) ?_
  refine WL_nil ?_
  refine WQ_code ?_
  refine WC_seq ?_
  refine WC_seq ?_
  refine WC_region ?_
  refine WL_val rfl rfl rfl (R_move rfl rfl) ?_
  refine WL_val rfl rfl rfl (R_sliceEqNil rfl Try.underlying56 rfl) ?_
  refine WL_nil ?_
  refine WQ_code ?_
  refine WC_F rfl ?_
  refine WC_skip ?_
  refine WQ_code ?_
  refine WC_seq ?_
  refine WC_region ?_
  refine WL_do rfl rfl rfl (D_buildSlice rfl si56 rfl rfl rfl) ?_
  rintro _ _ ⟨b1, rfl, rfl⟩
  refine WL_val rfl rfl rfl (R_move rfl rfl) ?_
  refine WL_do rfl rfl rfl (D_append rfl si56 rfl ((⟨by simp, by simp, by simp, by simp, fun h => by cases h⟩ : Own (some b1) 0 0 3 [] [])) (plZ) rfl (mmZ) (h.atAll) (fm_length encV3 E) (encV_one E) (by omega) (by omega)) ?_
  rintro _ _ ⟨ob2, cap2, tl2, rfl, own2, rfl⟩
  rw [Nat.zero_add, List.nil_append] at own2
  refine WL_val rfl rfl rfl (R_assign rfl rfl) ?_
  refine WL_nil ?_
  refine WQ_code ?_
  refine WC_ret ?_
  refine WQ_ret rfl rfl (.cons (.tmp rfl) .nil) rfl (by
      exact ⟨ob2, cap2, tl2, by rw [Nat.zero_add]; rfl, own2, rfl⟩) (pqZ)
theorem evcl_ok {ob : Option Nat} {k c : Nat} {pre tl : List Value} {E : List Pv} (h : OwnS ob k E.length c 3 pre (E.flatMap encV) tl) (hl : E.length ≤ 1000000) : Spec Try.prog 67 [sVal ob k E.length c] [⟨ob, cl (pre ++ (E.flatMap encV ++ tl)) 44⟩] (fun r H' => ∃ o2 c2 tl2, r = slV o2 E.length c2 ∧ Own o2 E.length c2 3 (E.flatMap encV) tl2 ∧ H' = [⟨o2, cl (E.flatMap encV ++ tl2) 44⟩, ⟨ob, cl (pre ++ (E.flatMap encV ++ tl)) 44⟩]) := by
  cases ob with
  | some b => exact evcl_some h hl
  | none =>
    have hE := h.nil_of rfl
    subst hE
    exact Spec.noneP 44 ((evcl_none h).mono fun r H' ⟨h1, h2⟩ => ⟨⟨none, cl [] 44⟩, ⟨rfl, rfl⟩, none, 0, [], h1, Own.empty 3, by rw [h2]; rfl⟩)
theorem ext_cloneW : Extern.find Try.f88 = some Extern.MapsClone.clone := by kernel_rfl
theorem wmcl_ok (m : PM) : Spec Try.prog 66 [.map (some m.wm)] [poW m] (fun x H' => ∃ m2, x = .map (some m2) ∧ H' = [⟨some m2, .map m.wes m.wmc⟩, poW m]) := by
  refine Spec.of (E := [(0, .map (some m.wm))]) Try.func66 rfl (by kernel_rfl) Try.ntmps66 rfl rfl (fun w => ?_)
  refine WC_seq ?_
  refine WC_region ?_
  refine WL_val rfl rfl rfl (R_assign rfl rfl) ?_
  refine WL_nil ?_
  refine WQ_code ?_
  refine WC_seq ?_
  refine WC_seq ?_
  refine WC_region ?_
  refine WL_val rfl rfl rfl (R_move rfl rfl) ?_
  refine WL_val rfl rfl rfl (R_mapEqNil rfl Try.underlying69 rfl) ?_
  refine WL_set (s := 4) (v := .bool false) rfl (by rfl) ?_
  refine WL_nil ?_
  refine WQ_code ?_
  refine WC_F rfl ?_
  refine WC_skip ?_
  refine WQ_code ?_
  refine WC_seq ?_
  refine WC_region ?_
  refine WL_val rfl rfl rfl (R_move rfl rfl) ?_
  refine WL_val rfl rfl rfl (R_mkIface rfl Try.underlying69 (by intro ms e; cases e) rfl) ?_
  refine WL_do rfl rfl rfl (D_mapsClone Try.func88 ext_clone_name rfl ext_clone_next ext_clone rfl rfl (mmZ)) ?_
  rintro _ _ ⟨m2, rfl, rfl⟩
  refine WL_val rfl rfl rfl (R_assert rfl Try.underlying69 (by intro ms e; cases e) rfl) ?_
  refine WL_val rfl rfl rfl (R_assign rfl rfl) ?_
  refine WL_nil ?_
  refine WQ_code ?_
  refine WC_ret ?_
  refine WQ_ret rfl rfl (.cons (.tmp rfl) .nil) rfl (by
      exact ⟨m2, rfl, rfl⟩) (pqZ)
theorem pcopy_ok {m : PM} {s : PS} (h : PIs m s) (hE : s.E.length ≤ 1000000) : Spec Try.prog 24 [ptrP m.p] (poH m s) (fun r H' => ∃ m2, r = ptrP m2.p ∧ H' = poH m2 s ++ poH m s ∧ PIs m2 s) := by
  refine Spec.of (E := [(0, ptrP m.p)]) Try.func24 rfl (by kernel_rfl) Try.ntmps24 rfl rfl (fun w => ?_)
  refine WC_seq ?_
  refine WC_region ?_
  refine WL_val rfl rfl rfl (R_assign rfl rfl) ?_
  refine WL_nil ?_
  refine WQ_code ?_
  refine WC_seq ?_
  refine WC_seq ?_
  refine WC_region ?_
  refine WL_val rfl rfl rfl (R_move rfl rfl) ?_
  refine WL_do rfl rfl rfl (D_call (pnone_ok h) rfl rfl rfl rfl (pqZ)) ?_
  rintro _ _ ⟨_, ⟨rfl, rfl⟩, rfl⟩
  refine WL_nil ?_
  refine WQ_code ?_
  refine WC_F rfl ?_
  refine WC_skip ?_
  refine WQ_code ?_
  refine WC_seq ?_
  refine WC_region ?_
  refine WL_val rfl rfl rfl (R_move rfl rfl) ?_
  refine WL_val rfl rfl rfl (R_nilCheck rfl rfl) ?_
  refine WL_val rfl rfl rfl (R_loadA (vs := pC m s) rfl ag71 rfl mmZ (pC_len h.cl) (at_all _)) ?_
  refine WL_do rfl rfl rfl (D_alloc rfl zv71) ?_
  rintro _ _ ⟨b1, rfl, rfl⟩
  refine WL_do0 rfl rfl (D_store (vs := pC m s) rfl Try.sizeOf71 rfl rfl rfl (pC_len h.cl) pC_one plZ (by show 0 + 199 ≤ _; simp)) ?_
  rintro _ _ rfl
  rw [putAt_all (show _ = (pC m s).length by rw [pC_len h.cl]; simp)]
  refine WL_nil ?_
  refine WQ_code ?_
  refine WC_seq ?_
  refine WC_drawR [⟨some b1, _⟩] [(0, true), (1, true), (2, true), (3, true), (5, true), (6, true), (7, true), (8, true), (10, true), (11, true), (12, true), (13, true), (4, false), (9, false), (14, false), (15, true), (16, false), (17, true), (18, false), (19, true), (20, false)] followsMixed rfl rfl (by kernel_rfl) (pqZ) ?_
  refine WM_val rfl rfl rfl rfl (R_move rfl rfl) ?_
  refine WM_val rfl rfl rfl rfl (R_nilCheck rfl rfl) ?_
  refine WM_val rfl rfl rfl rfl (R_fieldAddr rfl fa71_5 rfl) ?_
  refine WM_val rfl rfl rfl rfl (R_load (v := ptrQ m.q) rfl sc68 rfl (mmZ) (pc_t h.cl rfl 0)) ?_
  refine WM_val rfl rfl rfl rfl (R_move rfl rfl) ?_
  refine WM_val rfl rfl rfl rfl (R_nilCheck rfl rfl) ?_
  refine WM_val rfl rfl rfl rfl (R_fieldAddr rfl fa71_6 rfl) ?_
  refine WM_val rfl rfl rfl rfl (R_load (v := .map (some m.wm)) rfl sc69 rfl (mmZ) (pc_t h.cl rfl 1)) ?_
  refine WM_val rfl rfl rfl rfl (R_move rfl rfl) ?_
  refine WM_val rfl rfl rfl rfl (R_nilCheck rfl rfl) ?_
  refine WM_val rfl rfl rfl rfl (R_fieldAddr rfl fa71_7 rfl) ?_
  refine WM_val rfl rfl rfl rfl (R_load (v := sVal m.eb m.ek s.E.length m.ec) rfl sc56 rfl (mmZ) (pc_t h.cl rfl 2)) ?_
  refine WM_do rfl rfl rfl rfl (D_call (qcopy_ok m.q m.qm (fq s.Q) s.n m.qes m.qmc) rfl rfl rfl rfl (pqZ)) ?_
  rintro _ _ ⟨_, ⟨p2, m2, rfl, rfl⟩, rfl⟩
  refine ⟨⟨_, pqZ⟩, ?_⟩
  refine WM_do rfl rfl rfl rfl (D_call (wmcl_ok m) rfl rfl rfl rfl (pqZ)) ?_
  rintro _ _ ⟨_, ⟨w2, rfl, rfl⟩, rfl⟩
  refine ⟨⟨_, pqZ⟩, ?_⟩
  refine WM_do rfl rfl rfl rfl (D_call (evcl_ok h.eO hE) rfl rfl rfl rfl (pqZ)) ?_
  rintro _ _ ⟨_, ⟨o2, c2, tl2, rfl, own2, rfl⟩, rfl⟩
  refine ⟨⟨_, pqZ⟩, ?_⟩
  refine WM_val rfl rfl rfl rfl (R_fieldAddr rfl fa71_5 rfl) ?_
  refine WM_do0 rfl rfl rfl (D_store (vs := [_]) rfl Try.sizeOf68 rfl rfl rfl rfl rfl (plZ) (by exact pc_roomT h.cl rfl (j := 0) (by show 0 < 3; decide))) ?_
  rintro _ _ rfl
  refine ⟨⟨_, pqZ⟩, ?_⟩
  rw [show putAt (pC m s) _ _ = _ from pc_putT h.cl (A := pcH s) rfl 0 _]
  refine WM_val rfl rfl rfl rfl (R_fieldAddr rfl fa71_6 rfl) ?_
  refine WM_do0 rfl rfl rfl (D_store (vs := [_]) rfl Try.sizeOf69 rfl rfl rfl rfl rfl (plZ) (by exact pc_roomT h.cl rfl (j := 1) (by show 1 < 3; decide))) ?_
  rintro _ _ rfl
  refine ⟨⟨_, pqZ⟩, ?_⟩
  rw [pc_putT h.cl (A := pcH s) rfl 1 _]
  refine WM_val rfl rfl rfl rfl (R_fieldAddr rfl fa71_7 rfl) ?_
  refine WM_do0 rfl rfl rfl (D_store (vs := [_]) rfl Try.sizeOf56 rfl rfl rfl rfl rfl (plZ) (by exact pc_roomT h.cl rfl (j := 2) (by show 2 < 3; decide))) ?_
  rintro _ _ rfl
  refine ⟨⟨_, pqZ⟩, ?_⟩
  rw [pc_putT h.cl (A := pcH s) rfl 2 _]
  refine WM_nil ?_
  refine WQ_code ?_
  refine WC_seq ?_
  refine WC_region ?_
  refine WL_val rfl rfl rfl (R_assign rfl rfl) ?_
  refine WL_nil ?_
  refine WQ_code ?_
  refine WC_ret ?_
  refine WQ_ret rfl rfl (.cons (.tmp rfl) .nil) rfl (by
      exact ⟨⟨b1, p2, m2, m.qes, m.qmc, w2, m.wes, m.wmc, o2, 0, c2, [], tl2⟩, rfl, rfl, ⟨h.cl, h.qk, h.qM, h.wM, OwnS.of own2, h.who, h.op, h.most, h.since, h.now, h.keep, h.st⟩⟩) (pqZ)
theorem PIs.canc {m : PM} {s : PS} (h : PIs m s) {now : Nat} (who : Int) (hm : s.may (decide (0 ≤ who ∧ who ≤ 1000)) now = 0) (hb : now ≤ 18446744073709551615) : PIs m (s.at_ now) := by
  obtain ⟨_, h2, h3⟩ := may_zero hm
  exact h.at_ h2 (by omega)
theorem pcancel_ok {m : PM} {s : PS} (h : PIs m s) (hE : s.E.length ≤ 10000) (who : Int) (now : Nat) (hb : now ≤ 18446744073709551615) : Spec Try.prog 17 [ptrP m.p, .int .i64 who, .int .u64 (now : Int)] (poH m s) (fun r H' => ∃ m', r = .int .i64 (s.canE who now) ∧ H' = poH m' (s.cancel who now) ∧ m'.p = m.p ∧ PIs m' (s.cancel who now)) := by
  refine Spec.of (E := [(0, ptrP m.p), (1, .int .i64 who), (2, .int .u64 (now : Int))]) Try.func17 rfl (by kernel_rfl) Try.ntmps17 rfl rfl (fun w => ?_)
  refine WC_seq ?_
  refine WC_region ?_
  refine WL_val rfl rfl rfl (R_assign rfl rfl) ?_
  refine WL_nil ?_
  refine WQ_code ?_
  refine WC_seq ?_
  refine WC_seq ?_
  refine WC_region ?_
  refine WL_val rfl rfl rfl (R_move rfl rfl) ?_
  refine WL_val rfl rfl rfl (R_move rfl rfl) ?_
  refine WL_val rfl rfl rfl (R_geq rfl rfl rfl) ?_
  refine WL_val rfl rfl rfl (R_move rfl rfl) ?_
  refine WL_splitD (s := 14) rfl (fun c1 => ?_) (fun c1 => ?_)
  · have hg := c1
    refine WL_val rfl rfl rfl (R_move rfl rfl) ?_
    refine WL_val rfl rfl rfl (R_leq rfl rfl rfl) ?_
    refine WL_val rfl rfl rfl (R_pickT rfl rfl rfl) ?_
    refine WL_val rfl rfl rfl (R_move rfl rfl) ?_
    refine WL_set (s := 17) (v := .bool (decide (0 ≤ who ∧ who ≤ 1000))) rfl (by first | exact congrArg Value.bool (decide_eq_decide.2 (by omega)) | exact congrArg Value.bool (decide_eq_false (by omega)).symm) ?_
    refine WL_do rfl rfl rfl (D_call (pmay_ok h (decide (0 ≤ who ∧ who ≤ 1000)) now) rfl rfl rfl rfl (pqZ)) ?_
    rintro _ _ ⟨_, ⟨rfl, rfl⟩, rfl⟩
    refine WL_val rfl rfl rfl (R_assign rfl rfl) ?_
    refine WL_nil ?_
    refine WQ_code ?_
    refine WC_seq ?_
    refine WC_region ?_
    refine WL_val rfl rfl rfl (R_move rfl rfl) ?_
    refine WL_val rfl rfl rfl (R_neq rfl rfl rfl) ?_
    refine WL_nil ?_
    refine WQ_code ?_
    refine WC_dec rfl (fun c2 => ?_) (fun c2 => ?_)
    · have hm := c2
      refine WC_seq ?_
      refine WC_region ?_
      refine WL_val rfl rfl rfl (R_move rfl rfl) ?_
      refine WL_val rfl rfl rfl (R_assign rfl rfl) ?_
      refine WL_nil ?_
      refine WQ_code ?_
      refine WC_ret ?_
      refine WQ_ret rfl rfl (.cons (.tmp rfl) .nil) rfl (by
          exact ⟨m, congrArg (Value.int .i64) (canE_may hm).symm, by rw [cancel_no (by rw [canE_may hm]; exact hm)], rfl, by rw [cancel_no (by rw [canE_may hm]; exact hm)]; exact h⟩) (pqZ)
    · have hm : s.may (decide (0 ≤ who ∧ who ≤ 1000)) now = 0 := Decidable.byContradiction c2
      rcases waits_or s who with ⟨A, x, B, hQ, rfl⟩ | ⟨hw, hno⟩
      · refine WC_skip ?_
        refine WQ_code ?_
        refine WC_seq ?_
        refine WC_seq ?_
        refine WC_region ?_
        refine WL_val rfl rfl rfl (R_move rfl rfl) ?_
        refine WL_val rfl rfl rfl (R_nilCheck rfl rfl) ?_
        refine WL_val rfl rfl rfl (R_fieldAddr rfl fa71_6 rfl) ?_
        refine WL_val rfl rfl rfl (R_load (v := .map (some m.wm)) rfl sc69 rfl (mmZ) (pc_t h.cl rfl 1)) ?_
        refine WL_val rfl rfl rfl (R_move rfl rfl) ?_
        refine WL_val rfl rfl rfl (R_lookKT (k := x.who) (a := (x.t, x.dl)) rfl Try.underlying69 int_key rfl rfl mmZ h.wM (by rw [hQ]; exact List.mem_map_of_mem (List.mem_append_right _ (List.mem_cons_self ..)))) ?_
        refine WL_val rfl rfl rfl (R_move rfl rfl) ?_
        refine WL_val rfl rfl rfl (R_extract rfl rfl rfl) ?_
        refine WL_val rfl rfl rfl (R_extract rfl rfl rfl) ?_
        refine WL_set (s := 31) (v := .bool true) rfl (by rfl) ?_
        refine WL_do rfl rfl rfl (D_alloc rfl zv86) ?_
        rintro _ _ ⟨b1, rfl, rfl⟩
        refine WL_do0 rfl rfl (D_store (vs := [_, _]) rfl Try.sizeOf86 rfl rfl rfl rfl rfl (plZ) (by exact Nat.le_of_ble_eq_true rfl)) ?_
        rintro _ _ rfl
        refine WL_val rfl rfl rfl (R_assign rfl rfl) ?_
        refine WL_nil ?_
        refine WQ_code ?_
        refine WC_seq ?_
        refine WC_region ?_
        refine WL_val rfl rfl rfl (R_move rfl rfl) ?_
        refine WL_val rfl rfl rfl (R_not rfl rfl) ?_
        refine WL_nil ?_
        refine WQ_code ?_
        refine WC_F rfl ?_
        refine WC_skip ?_
        refine WQ_code ?_
        refine WC_seq ?_
        refine WC_seq ?_
        refine WC_region ?_
        refine WL_val rfl rfl rfl (R_move rfl rfl) ?_
        refine WL_do rfl rfl rfl (D_call (pfull_ok h hE) rfl rfl rfl rfl (pqZ)) ?_
        rintro _ _ ⟨_, ⟨rfl, rfl⟩, rfl⟩
        refine WL_val rfl rfl rfl (R_assign rfl rfl) ?_
        refine WL_nil ?_
        refine WQ_code ?_
        refine WC_seq ?_
        refine WC_region ?_
        refine WL_val rfl rfl rfl (R_move rfl rfl) ?_
        refine WL_val rfl rfl rfl (R_neq rfl rfl rfl) ?_
        refine WL_nil ?_
        refine WQ_code ?_
        refine WC_dF rfl (by simp) ?_
        refine WC_skip ?_
        refine WQ_code ?_
        refine WC_seq ?_
        refine WC_region ?_
        refine WL_val rfl rfl rfl (R_move rfl rfl) ?_
        refine WL_val rfl rfl rfl (R_move rfl rfl) ?_
        refine WL_val rfl rfl rfl (R_nilCheck rfl rfl) ?_
        refine WL_val rfl rfl rfl (R_fieldAddr rfl fa71_3 rfl) ?_
        refine WL_do0 rfl rfl (D_store (vs := [_]) rfl Try.sizeOf28 rfl rfl rfl rfl rfl (plZ) (by exact pc_nowr m s)) ?_
        rintro _ _ rfl
        rw [pc_now]
        have h0 := h.canc _ hm hb
        refine WL_nil ?_
        refine WQ_code ?_
        refine WC_seq ?_
        refine WC_region ?_
        refine WL_val rfl rfl rfl (R_move rfl rfl) ?_
        refine WL_val rfl rfl rfl (R_move rfl rfl) ?_
        refine WL_do rfl rfl rfl (D_call (pleave_ok h0 hQ) rfl rfl rfl rfl (pqZ)) ?_
        rintro _ _ ⟨_, ⟨m1, rfl, rfl, hp1, h1⟩, rfl⟩
        refine WL_nil ?_
        refine WQ_code ?_
        refine WC_seq ?_
        refine WC_region ?_
        refine WL_val rfl rfl rfl (R_assign rfl rfl) ?_
        refine WL_nil ?_
        refine WQ_code ?_
        refine WC_ret ?_
        refine WQ_ret rfl rfl (.cons (.tmp rfl) .nil) rfl (by
            exact ⟨m1, congrArg (Value.int .i64) (canE_ok hm (waits_in hQ)).symm, by rw [cancel_ok (canE_ok hm (waits_in hQ))], hp1, by rw [cancel_ok (canE_ok hm (waits_in hQ))]; exact h1⟩) (pqZ)
      · refine WC_skip ?_
        refine WQ_code ?_
        refine WC_seq ?_
        refine WC_seq ?_
        refine WC_region ?_
        refine WL_val rfl rfl rfl (R_move rfl rfl) ?_
        refine WL_val rfl rfl rfl (R_nilCheck rfl rfl) ?_
        refine WL_val rfl rfl rfl (R_fieldAddr rfl fa71_6 rfl) ?_
        refine WL_val rfl rfl rfl (R_load (v := .map (some m.wm)) rfl sc69 rfl (mmZ) (pc_t h.cl rfl 1)) ?_
        refine WL_val rfl rfl rfl (R_move rfl rfl) ?_
        refine WL_val rfl rfl rfl (R_lookKF (k := who) (zv := .agg #[.int .u64 0, .int .u64 0]) rfl Try.underlying69 int_key rfl rfl mmZ h.wM hno (fun w => Try.zeroValue86 w)) ?_
        refine WL_val rfl rfl rfl (R_move rfl rfl) ?_
        refine WL_val rfl rfl rfl (R_extract rfl rfl rfl) ?_
        refine WL_val rfl rfl rfl (R_extract rfl rfl rfl) ?_
        refine WL_set (s := 31) (v := .bool false) rfl (by rfl) ?_
        refine WL_do rfl rfl rfl (D_alloc rfl zv86) ?_
        rintro _ _ ⟨b2, rfl, rfl⟩
        refine WL_do0 rfl rfl (D_store (vs := [_, _]) rfl Try.sizeOf86 rfl rfl rfl rfl rfl (plZ) (by exact Nat.le_of_ble_eq_true rfl)) ?_
        rintro _ _ rfl
        refine WL_val rfl rfl rfl (R_assign rfl rfl) ?_
        refine WL_nil ?_
        refine WQ_code ?_
        refine WC_seq ?_
        refine WC_region ?_
        refine WL_val rfl rfl rfl (R_move rfl rfl) ?_
        refine WL_val rfl rfl rfl (R_not rfl rfl) ?_
        refine WL_nil ?_
        refine WQ_code ?_
        refine WC_T rfl ?_
        refine WC_seq ?_
        refine WC_region ?_
        refine WL_val rfl rfl rfl (R_assign rfl rfl) ?_
        refine WL_nil ?_
        refine WQ_code ?_
        refine WC_ret ?_
        refine WQ_ret rfl rfl (.cons (.tmp rfl) .nil) rfl (by
            exact ⟨m, congrArg (Value.int .i64) (canE_no hm hw).symm, by rw [cancel_no (by rw [canE_no hm hw]; decide)], rfl, by rw [cancel_no (by rw [canE_no hm hw]; decide)]; exact h⟩) (pqZ)
  · have hg := c1
    refine WL_skip rfl rfl rfl ?_
    refine WL_skip rfl rfl rfl ?_
    refine WL_val rfl rfl rfl (R_pickF rfl rfl rfl) ?_
    refine WL_val rfl rfl rfl (R_move rfl rfl) ?_
    refine WL_set (s := 17) (v := .bool (decide (0 ≤ who ∧ who ≤ 1000))) rfl (by first | exact congrArg Value.bool (decide_eq_decide.2 (by omega)) | exact congrArg Value.bool (decide_eq_false (by omega)).symm) ?_
    refine WL_do rfl rfl rfl (D_call (pmay_ok h (decide (0 ≤ who ∧ who ≤ 1000)) now) rfl rfl rfl rfl (pqZ)) ?_
    rintro _ _ ⟨_, ⟨rfl, rfl⟩, rfl⟩
    refine WL_val rfl rfl rfl (R_assign rfl rfl) ?_
    refine WL_nil ?_
    refine WQ_code ?_
    refine WC_seq ?_
    refine WC_region ?_
    refine WL_val rfl rfl rfl (R_move rfl rfl) ?_
    refine WL_val rfl rfl rfl (R_neq rfl rfl rfl) ?_
    refine WL_nil ?_
    refine WQ_code ?_
    refine WC_dec rfl (fun c3 => ?_) (fun c3 => ?_)
    · have hm := c3
      refine WC_seq ?_
      refine WC_region ?_
      refine WL_val rfl rfl rfl (R_move rfl rfl) ?_
      refine WL_val rfl rfl rfl (R_assign rfl rfl) ?_
      refine WL_nil ?_
      refine WQ_code ?_
      refine WC_ret ?_
      refine WQ_ret rfl rfl (.cons (.tmp rfl) .nil) rfl (by
          exact ⟨m, congrArg (Value.int .i64) (canE_may hm).symm, by rw [cancel_no (by rw [canE_may hm]; exact hm)], rfl, by rw [cancel_no (by rw [canE_may hm]; exact hm)]; exact h⟩) (pqZ)
    · have hm : s.may (decide (0 ≤ who ∧ who ≤ 1000)) now = 0 := Decidable.byContradiction c3
      rcases waits_or s who with ⟨A, x, B, hQ, rfl⟩ | ⟨hw, hno⟩
      · refine WC_skip ?_
        refine WQ_code ?_
        refine WC_seq ?_
        refine WC_seq ?_
        refine WC_region ?_
        refine WL_val rfl rfl rfl (R_move rfl rfl) ?_
        refine WL_val rfl rfl rfl (R_nilCheck rfl rfl) ?_
        refine WL_val rfl rfl rfl (R_fieldAddr rfl fa71_6 rfl) ?_
        refine WL_val rfl rfl rfl (R_load (v := .map (some m.wm)) rfl sc69 rfl (mmZ) (pc_t h.cl rfl 1)) ?_
        refine WL_val rfl rfl rfl (R_move rfl rfl) ?_
        refine WL_val rfl rfl rfl (R_lookKT (k := x.who) (a := (x.t, x.dl)) rfl Try.underlying69 int_key rfl rfl mmZ h.wM (by rw [hQ]; exact List.mem_map_of_mem (List.mem_append_right _ (List.mem_cons_self ..)))) ?_
        refine WL_val rfl rfl rfl (R_move rfl rfl) ?_
        refine WL_val rfl rfl rfl (R_extract rfl rfl rfl) ?_
        refine WL_val rfl rfl rfl (R_extract rfl rfl rfl) ?_
        refine WL_set (s := 31) (v := .bool true) rfl (by rfl) ?_
        refine WL_do rfl rfl rfl (D_alloc rfl zv86) ?_
        rintro _ _ ⟨b3, rfl, rfl⟩
        refine WL_do0 rfl rfl (D_store (vs := [_, _]) rfl Try.sizeOf86 rfl rfl rfl rfl rfl (plZ) (by exact Nat.le_of_ble_eq_true rfl)) ?_
        rintro _ _ rfl
        refine WL_val rfl rfl rfl (R_assign rfl rfl) ?_
        refine WL_nil ?_
        refine WQ_code ?_
        refine WC_seq ?_
        refine WC_region ?_
        refine WL_val rfl rfl rfl (R_move rfl rfl) ?_
        refine WL_val rfl rfl rfl (R_not rfl rfl) ?_
        refine WL_nil ?_
        refine WQ_code ?_
        refine WC_F rfl ?_
        refine WC_skip ?_
        refine WQ_code ?_
        refine WC_seq ?_
        refine WC_seq ?_
        refine WC_region ?_
        refine WL_val rfl rfl rfl (R_move rfl rfl) ?_
        refine WL_do rfl rfl rfl (D_call (pfull_ok h hE) rfl rfl rfl rfl (pqZ)) ?_
        rintro _ _ ⟨_, ⟨rfl, rfl⟩, rfl⟩
        refine WL_val rfl rfl rfl (R_assign rfl rfl) ?_
        refine WL_nil ?_
        refine WQ_code ?_
        refine WC_seq ?_
        refine WC_region ?_
        refine WL_val rfl rfl rfl (R_move rfl rfl) ?_
        refine WL_val rfl rfl rfl (R_neq rfl rfl rfl) ?_
        refine WL_nil ?_
        refine WQ_code ?_
        refine WC_dF rfl (by simp) ?_
        refine WC_skip ?_
        refine WQ_code ?_
        refine WC_seq ?_
        refine WC_region ?_
        refine WL_val rfl rfl rfl (R_move rfl rfl) ?_
        refine WL_val rfl rfl rfl (R_move rfl rfl) ?_
        refine WL_val rfl rfl rfl (R_nilCheck rfl rfl) ?_
        refine WL_val rfl rfl rfl (R_fieldAddr rfl fa71_3 rfl) ?_
        refine WL_do0 rfl rfl (D_store (vs := [_]) rfl Try.sizeOf28 rfl rfl rfl rfl rfl (plZ) (by exact pc_nowr m s)) ?_
        rintro _ _ rfl
        rw [pc_now]
        have h0 := h.canc _ hm hb
        refine WL_nil ?_
        refine WQ_code ?_
        refine WC_seq ?_
        refine WC_region ?_
        refine WL_val rfl rfl rfl (R_move rfl rfl) ?_
        refine WL_val rfl rfl rfl (R_move rfl rfl) ?_
        refine WL_do rfl rfl rfl (D_call (pleave_ok h0 hQ) rfl rfl rfl rfl (pqZ)) ?_
        rintro _ _ ⟨_, ⟨m1, rfl, rfl, hp1, h1⟩, rfl⟩
        refine WL_nil ?_
        refine WQ_code ?_
        refine WC_seq ?_
        refine WC_region ?_
        refine WL_val rfl rfl rfl (R_assign rfl rfl) ?_
        refine WL_nil ?_
        refine WQ_code ?_
        refine WC_ret ?_
        refine WQ_ret rfl rfl (.cons (.tmp rfl) .nil) rfl (by
            exact ⟨m1, congrArg (Value.int .i64) (canE_ok hm (waits_in hQ)).symm, by rw [cancel_ok (canE_ok hm (waits_in hQ))], hp1, by rw [cancel_ok (canE_ok hm (waits_in hQ))]; exact h1⟩) (pqZ)
      · refine WC_skip ?_
        refine WQ_code ?_
        refine WC_seq ?_
        refine WC_seq ?_
        refine WC_region ?_
        refine WL_val rfl rfl rfl (R_move rfl rfl) ?_
        refine WL_val rfl rfl rfl (R_nilCheck rfl rfl) ?_
        refine WL_val rfl rfl rfl (R_fieldAddr rfl fa71_6 rfl) ?_
        refine WL_val rfl rfl rfl (R_load (v := .map (some m.wm)) rfl sc69 rfl (mmZ) (pc_t h.cl rfl 1)) ?_
        refine WL_val rfl rfl rfl (R_move rfl rfl) ?_
        refine WL_val rfl rfl rfl (R_lookKF (k := who) (zv := .agg #[.int .u64 0, .int .u64 0]) rfl Try.underlying69 int_key rfl rfl mmZ h.wM hno (fun w => Try.zeroValue86 w)) ?_
        refine WL_val rfl rfl rfl (R_move rfl rfl) ?_
        refine WL_val rfl rfl rfl (R_extract rfl rfl rfl) ?_
        refine WL_val rfl rfl rfl (R_extract rfl rfl rfl) ?_
        refine WL_set (s := 31) (v := .bool false) rfl (by rfl) ?_
        refine WL_do rfl rfl rfl (D_alloc rfl zv86) ?_
        rintro _ _ ⟨b4, rfl, rfl⟩
        refine WL_do0 rfl rfl (D_store (vs := [_, _]) rfl Try.sizeOf86 rfl rfl rfl rfl rfl (plZ) (by exact Nat.le_of_ble_eq_true rfl)) ?_
        rintro _ _ rfl
        refine WL_val rfl rfl rfl (R_assign rfl rfl) ?_
        refine WL_nil ?_
        refine WQ_code ?_
        refine WC_seq ?_
        refine WC_region ?_
        refine WL_val rfl rfl rfl (R_move rfl rfl) ?_
        refine WL_val rfl rfl rfl (R_not rfl rfl) ?_
        refine WL_nil ?_
        refine WQ_code ?_
        refine WC_T rfl ?_
        refine WC_seq ?_
        refine WC_region ?_
        refine WL_val rfl rfl rfl (R_assign rfl rfl) ?_
        refine WL_nil ?_
        refine WQ_code ?_
        refine WC_ret ?_
        refine WQ_ret rfl rfl (.cons (.tmp rfl) .nil) rfl (by
            exact ⟨m, congrArg (Value.int .i64) (canE_no hm hw).symm, by rw [cancel_no (by rw [canE_no hm hw]; decide)], rfl, by rw [cancel_no (by rw [canE_no hm hw]; decide)]; exact h⟩) (pqZ)

end Go.Proofs.Yteofigbgdbpjgaa
