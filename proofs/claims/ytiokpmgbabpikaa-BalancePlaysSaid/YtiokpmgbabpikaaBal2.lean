/-
  Chapter 48 (balance), part Bal2: contracts of functions that the laws call, each for the heap it names.
-/
import Derived.Test.YtiokpmgbabpikaaRows
import Derived.Test.YtiokpmgbabpikaaZSLOpt
import Derived.Test.YtiokpmgbabpikaaTab
import Derived.Test.YtiokpmgbabpikaaBalL
import Derived.Test.YtiokpmgbabpikaaScore
set_option linter.unusedVariables false
set_option maxRecDepth 20000
set_option maxHeartbeats 2000000
namespace Go.Proofs.Ytiokpmgbabpikaa


theorem bt1_ok (m : Bm) (bc : Nat) (a : Int) : Spec Try.prog 45 [.int .i64 a, ptrB bc] [⟨some bc, cl [ptrB m.p] 31⟩, bE1 m] (fun r H' => r = .bool (decide ((m.nx : Int) ≤ a)) ∧ H' = [⟨some bc, cl [ptrB m.p] 31⟩, bE1 m]) := by
  refine Spec.of (E := [(0, .int .i64 a), (1, ptrB bc)]) Try.func45 rfl (by kernel_rfl) Try.ntmps45 rfl rfl (fun w => ?_)
  refine WC_seq ?_
  refine WC_region ?_
  refine WL_val rfl rfl rfl (R_assign rfl rfl) ?_
  refine WL_nil ?_
  refine WQ_code ?_
  refine WC_seq ?_
  refine WC_region ?_
  refine WL_val rfl rfl rfl (R_move rfl rfl) ?_
  refine WL_val rfl rfl rfl (R_load rfl sc31 rfl (mmY) rfl) ?_
  refine WL_val rfl rfl rfl (R_nilCheck rfl rfl) ?_
  refine WL_val rfl rfl rfl (R_fieldAddr rfl fa57_2 rfl) ?_
  refine WL_val rfl rfl rfl (R_load rfl sc3 rfl (mmY) rfl) ?_
  refine WL_val rfl rfl rfl (R_geq rfl rfl rfl) ?_
  refine WL_val rfl rfl rfl (R_assign rfl rfl) ?_
  refine WL_nil ?_
  refine WQ_code ?_
  refine WC_ret ?_
  refine WQ_ret rfl rfl (.cons (.tmp rfl) .nil) rfl (by
      exact ⟨rfl, rfl⟩) (pqY)
theorem bl1_ok (m : Bm) (hm : m.L.length = m.n) (bc a b : Nat) (x y : Bk) (hx : m.L[a]? = some x) (hy : m.L[b]? = some y) (hxa : -10000 ≤ x.act ∧ x.act ≤ 10000) (hya : -10000 ≤ y.act ∧ y.act ≤ 10000) (hxw : 1 ≤ x.w ∧ x.w ≤ 100) (hyw : 1 ≤ y.w ∧ y.w ≤ 100) :
    Spec Try.prog 47 [.int .i64 (a : Int), .int .i64 (b : Int), ptrB bc] [⟨some bc, cl [ptrB m.p] 31⟩, bE1 m, bE2 m] (fun r H' => r = .int .i64 (cmpI (x.act * y.w) (y.act * x.w)) ∧ H' = [⟨some bc, cl [ptrB m.p] 31⟩, bE1 m, bE2 m]) := by
  have ha := (List.getElem?_eq_some_iff.1 hx).1
  have hb := (List.getElem?_eq_some_iff.1 hy).1
  have hm1 := mul_in hxa.1 hxa.2 hyw.1 hyw.2
  have hm2 := mul_in hya.1 hya.2 hxw.1 hxw.2
  refine Spec.of (E := [(0, .int .i64 (a : Int)), (1, .int .i64 (b : Int)), (2, ptrB bc)]) Try.func47 rfl (by kernel_rfl) Try.ntmps47 rfl rfl (fun w => ?_)
  refine WC_seq ?_
  refine WC_region ?_
  refine WL_val rfl rfl rfl (R_assign rfl rfl) ?_
  refine WL_nil ?_
  refine WQ_code ?_
  refine WC_seq ?_
  refine WC_drawB _ [(0, .q), (1, .q), (2, .q), (3, .q), (4, .q), (5, .q), (6, .q), (7, .q), (8, .q), (9, .q), (10, .q), (11, .q), (12, .q), (13, .q), (14, .b [15]), (15, .b []), (16, .n []), (17, .n [])] followsMixed rfl rfl (by kernel_rfl) .all ?_
  refine WB_val rfl rfl rfl rfl (R_load rfl sc31 rfl (mmY) rfl) ?_
  refine WB_val rfl rfl rfl rfl (R_nilCheck rfl rfl) ?_
  refine WB_val rfl rfl rfl rfl (R_fieldAddr rfl fa57_1 rfl) ?_
  refine WB_val rfl rfl rfl rfl (R_load rfl sc54 rfl (mmY) rfl) ?_
  refine WB_val rfl rfl rfl rfl (R_move rfl rfl) ?_
  refine WB_val rfl rfl rfl rfl (R_indexAddrN rfl Try.underlying54 Try.sizeOf73 rfl rfl (by omega)) ?_
  refine WB_val rfl rfl rfl rfl (R_loadA (vs := encB x) rfl ag73 rfl (mmY) rfl (fm_at0 encB5 hx (j := 0) (vs := encB x) (fun j v h => by rw [Nat.zero_add]; exact h) (Nat.le_refl _))) ?_
  refine WB_val rfl rfl rfl rfl (R_load rfl sc31 rfl (mmY) rfl) ?_
  refine WB_val rfl rfl rfl rfl (R_nilCheck rfl rfl) ?_
  refine WB_val rfl rfl rfl rfl (R_fieldAddr rfl fa57_1 rfl) ?_
  refine WB_val rfl rfl rfl rfl (R_load rfl sc54 rfl (mmY) rfl) ?_
  refine WB_val rfl rfl rfl rfl (R_move rfl rfl) ?_
  refine WB_val rfl rfl rfl rfl (R_indexAddrN rfl Try.underlying54 Try.sizeOf73 rfl rfl (by omega)) ?_
  refine WB_val rfl rfl rfl rfl (R_loadA (vs := encB y) rfl ag73 rfl (mmY) rfl (fm_at0 encB5 hy (j := 0) (vs := encB y) (fun j v h => by rw [Nat.zero_add]; exact h) (Nat.le_refl _))) ?_
  refine WB_birth rfl rfl rfl rfl (.cons rfl rfl (B_alloc rfl zv73) .nil) (B_alloc rfl zv73) (fun b1 => ?_)
  refine WB_birth rfl rfl rfl rfl .nil (B_alloc rfl zv73) (fun b2 => ?_)
  refine WB_do0 rfl rfl rfl .nil (fun _ => D_store (vs := [_, _, _, _, _]) rfl Try.sizeOf73 rfl rfl rfl rfl rfl (plY) (by exact Nat.le_of_ble_eq_true rfl)) ?_
  rintro _ _ rfl
  refine ⟨⟨_, pqY⟩, ?_⟩
  refine WB_do0 rfl rfl rfl .nil (fun _ => D_store (vs := [_, _, _, _, _]) rfl Try.sizeOf73 rfl rfl rfl rfl rfl (plY) (by exact Nat.le_of_ble_eq_true rfl)) ?_
  rintro _ _ rfl
  refine ⟨⟨_, pqY⟩, ?_⟩
  refine WB_nil ?_
  refine WQ_code ?_
  refine WC_seq ?_
  refine WC_region ?_
  refine WL_val rfl rfl rfl (R_fieldAddr rfl fa73_2 rfl) ?_
  refine WL_val rfl rfl rfl (R_load rfl sc3 rfl (mmY) rfl) ?_
  refine WL_val rfl rfl rfl (R_fieldAddr rfl fa73_0 rfl) ?_
  refine WL_val rfl rfl rfl (R_load rfl sc3 rfl (mmY) rfl) ?_
  refine WL_val rfl rfl rfl (R_mul rfl rfl rfl (by omega)) ?_
  refine WL_val rfl rfl rfl (R_fieldAddr rfl fa73_2 rfl) ?_
  refine WL_val rfl rfl rfl (R_load rfl sc3 rfl (mmY) rfl) ?_
  refine WL_val rfl rfl rfl (R_fieldAddr rfl fa73_0 rfl) ?_
  refine WL_val rfl rfl rfl (R_load rfl sc3 rfl (mmY) rfl) ?_
  refine WL_val rfl rfl rfl (R_mul rfl rfl rfl (by omega)) ?_
  refine WL_do rfl rfl rfl (D_call (cmpi_ok _ _) rfl rfl rfl rfl (pqY)) ?_
  rintro _ _ ⟨_, ⟨rfl, rfl⟩, rfl⟩
  refine WL_val rfl rfl rfl (R_assign rfl rfl) ?_
  refine WL_nil ?_
  refine WQ_code ?_
  refine WC_ret ?_
  refine WQ_ret rfl rfl (.cons (.tmp rfl) .nil) rfl (by
      exact ⟨rfl, rfl⟩) (pqY)
theorem bw1_ok (m : Bm) (hm : m.L.length = m.n) (bc a b : Nat) (x y : Bk) (hx : m.L[a]? = some x) (hy : m.L[b]? = some y) :
    Spec Try.prog 50 [.int .i64 (a : Int), .int .i64 (b : Int), ptrB bc] [⟨some bc, cl [ptrB m.p] 31⟩, bE1 m, bE2 m] (fun r H' => r = .int .i64 (orL [cmpI x.sh y.sh, cmpI (b : Int) (a : Int)]) ∧ H' = [⟨some bc, cl [ptrB m.p] 31⟩, bE1 m, bE2 m]) := by
  have ha := (List.getElem?_eq_some_iff.1 hx).1
  have hb := (List.getElem?_eq_some_iff.1 hy).1
  refine Spec.of (E := [(0, .int .i64 (a : Int)), (1, .int .i64 (b : Int)), (2, ptrB bc)]) Try.func50 rfl (by kernel_rfl) Try.ntmps50 rfl rfl (fun w => ?_)
  refine WC_seq ?_
  refine WC_region ?_
  refine WL_val rfl rfl rfl (R_assign rfl rfl) ?_
  refine WL_nil ?_
  refine WQ_code ?_
  refine WC_seq ?_
  refine WC_draw _ [(0, true), (1, true), (2, true), (3, true), (4, true), (5, true), (6, true), (7, true), (8, true), (9, true), (10, true), (11, true), (12, true), (13, true), (14, true), (15, true), (16, true), (17, true), (18, true), (19, true), (20, false), (21, false), (22, true)] followsMixed rfl rfl (by kernel_rfl) .all ?_
  refine WM_val rfl rfl rfl rfl (R_load rfl sc31 rfl (mmY) rfl) ?_
  refine WM_val rfl rfl rfl rfl (R_nilCheck rfl rfl) ?_
  refine WM_val rfl rfl rfl rfl (R_fieldAddr rfl fa57_1 rfl) ?_
  refine WM_val rfl rfl rfl rfl (R_load rfl sc54 rfl (mmY) rfl) ?_
  refine WM_val rfl rfl rfl rfl (R_move rfl rfl) ?_
  refine WM_val rfl rfl rfl rfl (R_indexAddrN rfl Try.underlying54 Try.sizeOf73 rfl rfl (by omega)) ?_
  refine WM_val rfl rfl rfl rfl (R_fieldAddr rfl fa73_1 rfl) ?_
  refine WM_val rfl rfl rfl rfl (R_load (v := .int .i64 x.sh) rfl sc3 rfl (mmY) (fm_get0 encB5 hx (j := 1) (by omega))) ?_
  refine WM_val rfl rfl rfl rfl (R_load rfl sc31 rfl (mmY) rfl) ?_
  refine WM_val rfl rfl rfl rfl (R_nilCheck rfl rfl) ?_
  refine WM_val rfl rfl rfl rfl (R_fieldAddr rfl fa57_1 rfl) ?_
  refine WM_val rfl rfl rfl rfl (R_load rfl sc54 rfl (mmY) rfl) ?_
  refine WM_val rfl rfl rfl rfl (R_move rfl rfl) ?_
  refine WM_val rfl rfl rfl rfl (R_indexAddrN rfl Try.underlying54 Try.sizeOf73 rfl rfl (by omega)) ?_
  refine WM_val rfl rfl rfl rfl (R_fieldAddr rfl fa73_1 rfl) ?_
  refine WM_val rfl rfl rfl rfl (R_load (v := .int .i64 y.sh) rfl sc3 rfl (mmY) (fm_get0 encB5 hy (j := 1) (by omega))) ?_
  refine WM_call rfl (Spec.quiet (cmpi_ok _ _)) rfl rfl rfl rfl rfl rfl rfl (pqY) ?_
  refine WM_val rfl rfl rfl rfl (R_move rfl rfl) ?_
  refine WM_val rfl rfl rfl rfl (R_move rfl rfl) ?_
  refine WM_call rfl (Spec.quiet (cmpi_ok _ _)) rfl rfl rfl rfl rfl rfl rfl (pqY) ?_
  refine WM_do rfl rfl rfl rfl (D_buildSlice rfl si26 rfl rfl rfl) ?_
  rintro _ _ ⟨b1, rfl, rfl⟩
  refine ⟨⟨_, pqY⟩, ?_⟩
  refine WM_do rfl rfl rfl rfl (D_call (cor_ok [cmpI x.sh y.sh, cmpI (b : Int) (a : Int)] (Nat.le_of_ble_eq_true rfl) _ _ [] (own_lit _ _ (Nat.le_of_ble_eq_true rfl))) rfl rfl rfl rfl (pqY)) ?_
  rintro _ _ ⟨_, ⟨rfl, rfl⟩, rfl⟩
  refine ⟨⟨_, pqY⟩, ?_⟩
  refine WM_val rfl rfl rfl rfl (R_assign rfl rfl) ?_
  refine WM_nil ?_
  refine WQ_code ?_
  refine WC_ret ?_
  refine WQ_ret rfl rfl (.cons (.tmp rfl) .nil) rfl (by
      exact ⟨rfl, rfl⟩) (pqY)
theorem bh1_ok (key : ByteArray) (hk : key.size ≤ 1000) (bc : Nat) (a b : Int) :
    Spec Try.prog 52 [.int .i64 a, .int .i64 b, ptrB bc] [⟨some bc, cl [.string key] 9⟩] (fun r H' => r = .int .i64 (orL [cmpI (sco key a : Nat) (sco key b : Nat), cmpI b a]) ∧ H' = [⟨some bc, cl [.string key] 9⟩]) := by
  refine Spec.of (E := [(0, .int .i64 a), (1, .int .i64 b), (2, ptrB bc)]) Try.func52 rfl (by kernel_rfl) Try.ntmps52 rfl rfl (fun w => ?_)
  refine WC_seq ?_
  refine WC_region ?_
  refine WL_val rfl rfl rfl (R_assign rfl rfl) ?_
  refine WL_nil ?_
  refine WQ_code ?_
  refine WC_seq ?_
  refine WC_draw _ [(0, true), (1, true), (2, true), (3, true), (4, true), (5, true), (6, true), (7, true), (8, true), (9, true), (10, false), (11, false), (12, true)] followsMixed rfl rfl (by kernel_rfl) .all ?_
  refine WM_val rfl rfl rfl rfl (R_load rfl sc9 rfl (mmY) rfl) ?_
  refine WM_val rfl rfl rfl rfl (R_move rfl rfl) ?_
  refine WM_call rfl (Spec.quiet (score_ok key hk _)) rfl rfl rfl rfl rfl rfl rfl (pqY) ?_
  refine WM_val rfl rfl rfl rfl (R_load rfl sc9 rfl (mmY) rfl) ?_
  refine WM_val rfl rfl rfl rfl (R_move rfl rfl) ?_
  refine WM_call rfl (Spec.quiet (score_ok key hk _)) rfl rfl rfl rfl rfl rfl rfl (pqY) ?_
  refine WM_call rfl (Spec.quiet (cmpu_ok _ _)) rfl rfl rfl rfl rfl rfl rfl (pqY) ?_
  refine WM_val rfl rfl rfl rfl (R_move rfl rfl) ?_
  refine WM_val rfl rfl rfl rfl (R_move rfl rfl) ?_
  refine WM_call rfl (Spec.quiet (cmpi_ok _ _)) rfl rfl rfl rfl rfl rfl rfl (pqY) ?_
  refine WM_do rfl rfl rfl rfl (D_buildSlice rfl si26 rfl rfl rfl) ?_
  rintro _ _ ⟨b1, rfl, rfl⟩
  refine ⟨⟨_, pqY⟩, ?_⟩
  refine WM_do rfl rfl rfl rfl (D_call (cor_ok [cmpI (sco key a : Nat) (sco key b : Nat), cmpI b a] (Nat.le_of_ble_eq_true rfl) _ _ [] (own_lit _ _ (Nat.le_of_ble_eq_true rfl))) rfl rfl rfl rfl (pqY)) ?_
  rintro _ _ ⟨_, ⟨rfl, rfl⟩, rfl⟩
  refine ⟨⟨_, pqY⟩, ?_⟩
  refine WM_val rfl rfl rfl rfl (R_assign rfl rfl) ?_
  refine WM_nil ?_
  refine WQ_code ?_
  refine WC_ret ?_
  refine WQ_ret rfl rfl (.cons (.tmp rfl) .nil) rfl (by
      exact ⟨rfl, rfl⟩) (pqY)
theorem bturns_ok (m : Bm) (hm : m.L.length = m.n) (hn : m.n ≤ 64) (l : List Int) (o : Option Nat) (c : Nat) (tl : List Value) (own : Own o l.length c 1 (ivs l) tl) (hl : 1 ≤ l.length) (hb : l.length ≤ 64) (hin : ∀ a ∈ l, ∃ (i : Nat) (x : Bk), a = (i : Int) ∧ m.L[i]? = some x) (key : ByteArray) :
    Spec Try.prog 34 [ptrB m.p, slV o l.length c, .string key] [bE1 m, bE2 m, ⟨o, cl (ivs l ++ tl) 3⟩] (fun r H' => ∃ nx', nx' = turnN m.n (turnI m.nx l) ∧ r = .int .i64 (turnI m.nx l) ∧ H' = [bE1 { m with nx := nx' }, bE2 m]) := by
  have hj1 := idxF_in (fun i => decide ((m.nx : Int) ≤ i)) l
  obtain ⟨j, hj⟩ := Int.eq_ofNat_of_zero_le (show 0 ≤ max 0 (idxF (fun i => decide ((m.nx : Int) ≤ i)) l) by omega)
  obtain ⟨a9, ha9⟩ := getE (T := l) (i := j) (by omega)
  obtain ⟨i9, x9, rfl, hx9⟩ := hin a9 (List.mem_of_getElem? ha9)
  have hi9 := (List.getElem?_eq_some_iff.1 hx9).1
  have ht : turnI m.nx l = (i9 : Int) := by unfold turnI; rw [hj, Int.toNat_natCast, ha9]; rfl
  obtain ⟨wa, hwa⟩ := own.some_of (by omega)
  rw [ht]
  refine Spec.of (E := [(0, ptrB m.p), (1, slV o l.length c), (2, .string key)]) Try.func34 rfl (by kernel_rfl) Try.ntmps34 rfl rfl (fun w => ?_)
  refine WC_seq ?_
  refine WC_region ?_
  refine WL_do rfl rfl rfl (D_box (cs := [_]) rfl rfl rfl) ?_
  rintro _ _ ⟨b1, rfl, rfl⟩
  refine WL_val rfl rfl rfl (R_assign rfl rfl) ?_
  refine WL_nil ?_
  refine WQ_code ?_
  refine WC_seq ?_
  refine WC_region ?_
  refine WL_val rfl rfl rfl (R_move rfl rfl) ?_
  refine WL_val rfl rfl rfl (R_makeFunc rfl rfl rfl) ?_
  refine WL_do rfl rfl rfl (D_call (idxf_ok l o c tl own 45 [ptrB b1] [⟨some b1, cl [ptrB m.p] 31⟩, bE1 m] (fun i => decide ((m.nx : Int) ≤ i)) (fun v hv => (bt1_ok m b1 v).mono fun r H2 ⟨h1, h2⟩ => ⟨h1, h2.symm⟩) (by omega)) rfl rfl rfl rfl (pqY)) ?_
  rintro _ _ ⟨_, ⟨rfl, rfl⟩, rfl⟩
  refine WL_val rfl rfl rfl (R_assign rfl rfl) ?_
  refine WL_nil ?_
  refine WQ_code ?_
  refine WC_seq ?_
  refine WC_region ?_
  refine WL_val rfl rfl rfl (R_move rfl rfl) ?_
  refine WL_val rfl rfl rfl (R_move rfl rfl) ?_
  refine WL_val rfl rfl rfl (R_maxR (r := ((j : Nat) : Int)) rfl rfl rfl hj) ?_
  refine WL_val rfl rfl rfl (R_idxO hwa rfl Try.underlying26 Try.sizeOf3 rfl rfl (by omega)) ?_
  refine WL_val rfl rfl rfl (R_loadO (v := .int .i64 (i9 : Int)) hwa rfl sc3 rfl (mmY) (fm_get0 encI1 ha9 (j := 0) (by omega))) ?_
  refine WL_val rfl rfl rfl (R_assign rfl rfl) ?_
  refine WL_nil ?_
  refine WQ_code ?_
  refine WC_seq ?_
  refine WC_region ?_
  refine WL_val rfl rfl rfl (R_load rfl sc31 rfl (mmY) rfl) ?_
  refine WL_val rfl rfl rfl (R_move rfl rfl) ?_
  refine WL_val rfl rfl rfl (R_addR (r := ((i9 + 1 : Nat) : Int)) rfl rfl rfl (by rw [wrap64_in (by omega) (by omega)]; omega)) ?_
  refine WL_val rfl rfl rfl (R_nilCheck rfl rfl) ?_
  refine WL_val rfl rfl rfl (R_fieldAddr rfl fa57_2 rfl) ?_
  refine WL_do0 rfl rfl (D_store (vs := [_]) rfl Try.sizeOf3 rfl rfl rfl rfl rfl (plY) (by exact Nat.le_of_ble_eq_true rfl)) ?_
  rintro _ _ rfl
  refine WL_nil ?_
  refine WQ_code ?_
  refine WC_seq ?_
  refine WC_seq ?_
  refine WC_draw _ [(0, true), (1, true), (2, true), (3, true), (4, true), (5, true), (6, true), (7, true), (8, true), (9, true)] followsMixed rfl rfl (by kernel_rfl) .all ?_
  refine WM_val rfl rfl rfl rfl (R_load rfl sc31 rfl (mmY) rfl) ?_
  refine WM_val rfl rfl rfl rfl (R_nilCheck rfl rfl) ?_
  refine WM_val rfl rfl rfl rfl (R_fieldAddr rfl fa57_2 rfl) ?_
  refine WM_val rfl rfl rfl rfl (R_load rfl sc3 rfl (mmY) rfl) ?_
  refine WM_val rfl rfl rfl rfl (R_load rfl sc31 rfl (mmY) rfl) ?_
  refine WM_val rfl rfl rfl rfl (R_nilCheck rfl rfl) ?_
  refine WM_val rfl rfl rfl rfl (R_fieldAddr rfl fa57_1 rfl) ?_
  refine WM_val rfl rfl rfl rfl (R_load rfl sc54 rfl (mmY) rfl) ?_
  refine WM_val rfl rfl rfl rfl (R_len rfl Try.underlying54 rfl) ?_
  refine WM_val rfl rfl rfl rfl (R_eql rfl rfl rfl) ?_
  refine WM_nil ?_
  refine WQ_code ?_
  refine WC_dec rfl (fun c1 => ?_) (fun c1 => ?_)
  · refine WC_region ?_
    refine WL_val rfl rfl rfl (R_load rfl sc31 rfl (mmY) rfl) ?_
    refine WL_val rfl rfl rfl (R_nilCheck rfl rfl) ?_
    refine WL_val rfl rfl rfl (R_fieldAddr rfl fa57_2 rfl) ?_
    refine WL_do0 rfl rfl (D_store (vs := [_]) rfl Try.sizeOf3 rfl rfl rfl rfl rfl (plY) (by exact Nat.le_of_ble_eq_true rfl)) ?_
    rintro _ _ rfl
    refine WL_nil ?_
    refine WQ_code ?_
    refine WC_seq ?_
    refine WC_region ?_
    refine WL_val rfl rfl rfl (R_move rfl rfl) ?_
    refine WL_val rfl rfl rfl (R_assign rfl rfl) ?_
    refine WL_nil ?_
    refine WQ_code ?_
    refine WC_ret ?_
    refine WQ_ret rfl rfl (.cons (.tmp rfl) .nil) rfl (by
        exact ⟨0, by unfold turnN; rw [if_pos (by omega)], rfl, rfl⟩) (pqY)
  · refine WC_skip ?_
    refine WQ_code ?_
    refine WC_seq ?_
    refine WC_region ?_
    refine WL_val rfl rfl rfl (R_move rfl rfl) ?_
    refine WL_val rfl rfl rfl (R_assign rfl rfl) ?_
    refine WL_nil ?_
    refine WQ_code ?_
    refine WC_ret ?_
    refine WQ_ret rfl rfl (.cons (.tmp rfl) .nil) rfl (by
        exact ⟨i9 + 1, by unfold turnN; rw [if_neg (by omega)]; omega, rfl, rfl⟩) (pqY)
theorem bleast_ok (m : Bm) (N : Nat) (C : List Cl) (hm : BalIs N m C) (hN : N ≤ 10000) (l : List Int) (o : Option Nat) (c : Nat) (tl : List Value) (own : Own o l.length c 1 (ivs l) tl) (hl : 1 ≤ l.length) (hb : l.length ≤ 64) (hin : ∀ a ∈ l, ∃ (i : Nat) (x : Bk), a = (i : Int) ∧ m.L[i]? = some x) (key : ByteArray) :
    Spec Try.prog 35 [ptrB m.p, slV o l.length c, .string key] [bE1 m, bE2 m, ⟨o, cl (ivs l ++ tl) 3⟩] (fun r H' => r = .int .i64 (leastI m.L l) ∧ H' = [bE1 m, bE2 m]) := by
  have hf : ∀ bc, ∀ a ∈ l, ∀ b ∈ l, Spec Try.prog 47 (.int .i64 a :: .int .i64 b :: [ptrB bc]) [⟨some bc, cl [ptrB m.p] 31⟩, bE1 m, bE2 m] (fun r H' => r = .int .i64 (leastQ m.L a b) ∧ [⟨some bc, cl [ptrB m.p] 31⟩, bE1 m, bE2 m] = H') := fun bc a ha b hb => by
    obtain ⟨i, x, rfl, hx⟩ := hin a ha
    obtain ⟨j, y, rfl, hy⟩ := hin b hb
    have e1 := hm.act x (List.mem_of_getElem? hx)
    have e2 := hm.act y (List.mem_of_getElem? hy)
    refine (bl1_ok m hm.hn bc i j x y hx hy (by omega) (by omega) (hm.w x (List.mem_of_getElem? hx)) (hm.w y (List.mem_of_getElem? hy))).mono fun r H' ⟨h1, h2⟩ => ⟨?_, h2.symm⟩
    rw [h1, leastQ, gB_at hx, gB_at hy]
  refine Spec.of (E := [(0, ptrB m.p), (1, slV o l.length c), (2, .string key)]) Try.func35 rfl (by kernel_rfl) Try.ntmps35 rfl rfl (fun w => ?_)
  refine WC_seq ?_
  refine WC_region ?_
  refine WL_do rfl rfl rfl (D_box (cs := [_]) rfl rfl rfl) ?_
  rintro _ _ ⟨b1, rfl, rfl⟩
  refine WL_val rfl rfl rfl (R_assign rfl rfl) ?_
  refine WL_nil ?_
  refine WQ_code ?_
  refine WC_seq ?_
  refine WC_region ?_
  refine WL_val rfl rfl rfl (R_move rfl rfl) ?_
  refine WL_val rfl rfl rfl (R_makeFunc rfl rfl rfl) ?_
  refine WL_do rfl rfl rfl (D_call (minf_ok l o c tl own 47 [ptrB b1] [⟨some b1, cl [ptrB m.p] 31⟩, bE1 m, bE2 m] (leastQ m.L) (hf b1) hl (by omega)) rfl rfl rfl rfl (pqY)) ?_
  rintro _ _ ⟨_, ⟨rfl, rfl⟩, rfl⟩
  refine WL_val rfl rfl rfl (R_assign rfl rfl) ?_
  refine WL_nil ?_
  refine WQ_code ?_
  refine WC_ret ?_
  refine WQ_ret rfl rfl (.cons (.tmp rfl) .nil) rfl (by
      exact ⟨rfl, rfl⟩) (pqY)
theorem bwei_ok (m : Bm) (N : Nat) (C : List Cl) (hm : BalIs N m C) (hN : N ≤ 10000) (l : List Int) (o : Option Nat) (c : Nat) (tl : List Value) (own : Own o l.length c 1 (ivs l) tl) (hl : 1 ≤ l.length) (hb : l.length ≤ 64) (hin : ∀ a ∈ l, ∃ (i : Nat) (x : Bk), a = (i : Int) ∧ m.L[i]? = some x) (key : ByteArray) :
    Spec Try.prog 36 [ptrB m.p, slV o l.length c, .string key] [bE1 m, bE2 m, ⟨o, cl (ivs l ++ tl) 3⟩] (fun r H' => r = .int .i64 (weiI (bump m.L l) l) ∧ H' = [bE1 m, bE2 { m with L := drop1 (bump m.L l) (weiI (bump m.L l) l) (sumW m.L l) }]) := by
  have hf : ∀ bc, ∀ a ∈ l, ∀ b ∈ l, Spec Try.prog 50 (.int .i64 a :: .int .i64 b :: [ptrB bc]) [⟨some bc, cl [ptrB m.p] 31⟩, bE1 m, bE2 { m with L := bump m.L l }] (fun r H' => r = .int .i64 (weiQ (bump m.L l) a b) ∧ [⟨some bc, cl [ptrB m.p] 31⟩, bE1 m, bE2 { m with L := bump m.L l }] = H') := fun bc a ha b hb => by
    obtain ⟨i, x, rfl, hx⟩ := hin a ha
    obtain ⟨j, y, rfl, hy⟩ := hin b hb
    obtain ⟨x2, hx2⟩ := getE (T := bump m.L l) (i := i) (by rw [bump_len]; exact (List.getElem?_eq_some_iff.1 hx).1)
    obtain ⟨y2, hy2⟩ := getE (T := bump m.L l) (i := j) (by rw [bump_len]; exact (List.getElem?_eq_some_iff.1 hy).1)
    refine (bw1_ok { m with L := bump m.L l } ((bump_len l m.L).trans hm.hn) bc i j x2 y2 hx2 hy2).mono fun r H' ⟨h1, h2⟩ => ⟨?_, h2.symm⟩
    rw [h1, weiQ, gB_at hx2, gB_at hy2]
  have hnn := hm.n
  refine Spec.of (E := [(0, ptrB m.p), (1, slV o l.length c), (2, .string key)]) Try.func36 rfl (by kernel_rfl) Try.ntmps36 rfl rfl (fun w => ?_)
  refine WC_seq ?_
  refine WC_region ?_
  refine WL_do rfl rfl rfl (D_box (cs := [_]) rfl rfl rfl) ?_
  rintro _ _ ⟨b1, rfl, rfl⟩
  refine WL_val rfl rfl rfl (R_assign rfl rfl) ?_
  refine WL_nil ?_
  refine WQ_code ?_
  refine WC_seq ?_
  refine WC_region ?_
  refine WL_val rfl rfl rfl (R_assign rfl rfl) ?_
  refine WL_nil ?_
  refine WQ_code ?_
  refine WC_seq ?_
  refine WC_seq ?_
  refine WC_region ?_
  refine WL_val rfl rfl rfl (R_move rfl rfl) ?_
  refine WL_val rfl rfl rfl (R_len rfl Try.underlying26 rfl) ?_
  refine WL_val rfl rfl rfl (R_move rfl rfl) ?_
  refine WL_nil ?_
  refine WQ_code ?_
  refine WC_block ?_
  refine WC_loopF (G := Nat) [7, 9, 13, 14, 15, 16, 17, 18, 19, 20, 21, 22, 23, 24, 25, 26, 27, 28, 29, 30, 31, 32, 33, 34, 35, 36, 37, 38, 39, 40, 41, 42, 43, 44, 45, 46] (fun y => y ≤ l.length) (fun y => [(13, .int .i64 (y : Int)), (7, .int .i64 (sumW m.L (l.take y)))]) (fun y => [⟨some m.ob, cl ((bump m.L (l.take y)).flatMap encB ++ m.tl) 73⟩]) (fun y => l.length - y) (0) (Nat.zero_le _) leZ (pqY) ?_
  rintro y hk
  refine WC_seq ?_
  refine WC_region ?_
  refine WL_val rfl rfl rfl (R_lss rfl rfl rfl) ?_
  refine WL_nil ?_
  refine WQ_code ?_
  refine WC_seq ?_
  refine WC_dec rfl (fun c1 => ?_) (fun c1 => ?_)
  · refine WC_skip ?_
    refine WQ_code ?_
    refine WC_seq ?_
    refine WC_block ?_
    refine WC_seq ?_
    refine WC_region ?_
    obtain ⟨a9, ha9⟩ := getE (T := l) (i := y) (by omega)
    obtain ⟨wa, hwa⟩ := own.some_of (by omega)
    obtain ⟨i9, y9, rfl, hy9⟩ := hin a9 (List.mem_of_getElem? ha9)
    have hi9 := (List.getElem?_eq_some_iff.1 hy9).1
    obtain ⟨x9, hx9⟩ := getE (T := bump m.L (l.take y)) (i := i9) (by rw [bump_len]; exact hi9)
    obtain ⟨z9, hz9, ez9, bz1, bz2⟩ := bump_get _ hm.w hx9
    have hzy : z9 = y9 := by rw [hy9] at hz9; exact (Option.some.inj hz9).symm
    have hxw : x9.w = y9.w := by rw [ez9, hzy]
    have hys := hm.sh y9 (List.mem_of_getElem? hy9)
    have hyw := hm.w y9 (List.mem_of_getElem? hy9)
    rw [List.length_take] at bz2
    have hbx : -70000000 ≤ x9.sh ∧ x9.sh ≤ 70000000 := by rw [hzy] at bz1 bz2; omega
    have hlt9 : i9 < (bump m.L (l.take y)).length := by rw [bump_len]; exact hi9
    have hx10 : (bump m.L (l.take (y + 1)))[i9]? = some { x9 with sh := x9.sh + x9.w } := by rw [bump_next ha9, bump1_at hx9, List.getElem?_set, if_pos rfl, if_pos hlt9]
    have hsw := sumW_in m.L hm.w (l.take y) (fun a ha => hin a (List.mem_of_mem_take ha))
    rw [List.length_take] at hsw
    have hsn : sumW m.L (l.take (y + 1)) = sumW m.L (l.take y) + x9.w := by rw [sumW_next ha9, gB_at hy9, hxw]
    have hi9n : i9 < m.n := by rw [← hm.hn]; exact hi9
    refine WL_val rfl rfl rfl (R_idxO hwa rfl Try.underlying26 Try.sizeOf3 rfl rfl (by omega)) ?_
    refine WL_val rfl rfl rfl (R_loadO (v := .int .i64 (i9 : Int)) hwa rfl sc3 rfl (mmY) (fm_get0 encI1 ha9 (j := 0) (by omega))) ?_
    refine WL_val rfl rfl rfl (R_assign rfl rfl) ?_
    refine WL_nil ?_
    refine WQ_code ?_
    refine WC_seq ?_
    refine WC_drawE [⟨some m.ob, _⟩] [(0, false), (1, false), (2, false), (3, false), (4, false), (5, false), (6, false), (7, true), (8, false), (9, false), (10, false), (11, false), (12, false), (13, false), (14, false), (15, true)] [(16, true), (17, true), (18, true), (19, false)] followsMixed rfl rfl (by kernel_rfl) (pqY) ?_
    refine WZ_val rfl rfl rfl rfl (R_load rfl sc31 rfl (mmY) rfl) ?_
    refine WZ_val rfl rfl rfl rfl (R_nilCheck rfl rfl) ?_
    refine WZ_val rfl rfl rfl rfl (R_fieldAddr rfl fa57_1 rfl) ?_
    refine WZ_val rfl rfl rfl rfl (R_load rfl sc54 rfl (mmY) rfl) ?_
    refine WZ_val rfl rfl rfl rfl (R_move rfl rfl) ?_
    refine WZ_val rfl rfl rfl rfl (R_indexAddrN rfl Try.underlying54 Try.sizeOf73 rfl rfl (by omega)) ?_
    refine WZ_val rfl rfl rfl rfl (R_fieldAddr rfl fa73_1 rfl) ?_
    refine WZ_early rfl rfl rfl rfl (R_load (v := .int .i64 x9.sh) rfl sc3 rfl (mmY) (fm_get0 encB5 hx9 (j := 1) (by omega))) ?_
    refine WZ_val rfl rfl rfl rfl (R_load rfl sc31 rfl (mmY) rfl) ?_
    refine WZ_val rfl rfl rfl rfl (R_nilCheck rfl rfl) ?_
    refine WZ_val rfl rfl rfl rfl (R_fieldAddr rfl fa57_1 rfl) ?_
    refine WZ_val rfl rfl rfl rfl (R_load rfl sc54 rfl (mmY) rfl) ?_
    refine WZ_val rfl rfl rfl rfl (R_move rfl rfl) ?_
    refine WZ_val rfl rfl rfl rfl (R_indexAddrN rfl Try.underlying54 Try.sizeOf73 rfl rfl (by omega)) ?_
    refine WZ_val rfl rfl rfl rfl (R_fieldAddr rfl fa73_0 rfl) ?_
    refine WZ_early rfl rfl rfl rfl (R_load (v := .int .i64 x9.w) rfl sc3 rfl (mmY) (fm_get0 encB5 hx9 (j := 0) (by omega))) ?_
    refine WZ_rest ?_
    refine WM_val rfl rfl rfl rfl (R_add rfl rfl rfl (by omega)) ?_
    refine WM_val rfl rfl rfl rfl (R_indexAddrN rfl Try.underlying54 Try.sizeOf73 rfl rfl (by omega)) ?_
    refine WM_val rfl rfl rfl rfl (R_fieldAddr rfl fa73_1 rfl) ?_
    refine WM_do0 rfl rfl rfl (D_store (vs := [_]) rfl Try.sizeOf3 rfl rfl rfl rfl rfl (plY) (by exact fm_room0 encB5 hlt9 (j := 1) (by omega))) ?_
    rintro _ _ rfl
    refine ⟨⟨_, pqY⟩, ?_⟩
    have hput := fm_put0 encB5 ({ x9 with sh := x9.sh + x9.w } : Bk) hx9 (j := 1) (vs := [.int .i64 (x9.sh + x9.w)]) (by simp) rfl (tl := m.tl)
    rw [hput, ← bump1_at hx9, ← bump_next ha9]
    refine WM_nil ?_
    refine WQ_code ?_
    refine WC_region ?_
    refine WL_val rfl rfl rfl (R_move rfl rfl) ?_
    refine WL_val rfl rfl rfl (R_load rfl sc31 rfl (mmY) rfl) ?_
    refine WL_val rfl rfl rfl (R_nilCheck rfl rfl) ?_
    refine WL_val rfl rfl rfl (R_fieldAddr rfl fa57_1 rfl) ?_
    refine WL_val rfl rfl rfl (R_load rfl sc54 rfl (mmY) rfl) ?_
    refine WL_val rfl rfl rfl (R_move rfl rfl) ?_
    refine WL_val rfl rfl rfl (R_indexAddrN rfl Try.underlying54 Try.sizeOf73 rfl rfl (by omega)) ?_
    refine WL_val rfl rfl rfl (R_fieldAddr rfl fa73_0 rfl) ?_
    refine WL_val rfl rfl rfl (R_load (v := .int .i64 x9.w) rfl sc3 rfl (mmY) (fm_get0 encB5 hx10 (j := 0) (by omega))) ?_
    refine WL_val rfl rfl rfl (R_add rfl rfl rfl (by omega)) ?_
    refine WL_val rfl rfl rfl (R_assign rfl rfl) ?_
    refine WL_nil ?_
    refine WQ_code ?_
    refine WC_region ?_
    refine WL_val rfl rfl rfl (R_add rfl rfl rfl (by omega)) ?_
    refine WL_val rfl rfl rfl (R_move rfl rfl) ?_
    refine WL_nil ?_
    rw [← hsn]
    refine WQ_nextF (y + 1) (by omega) (by omega) leZ (psZ) rfl (pqY)
  · have hkl : l.take y = l := List.take_of_length_le (by omega)
    rw [hkl]
    refine WC_exit ?_
    refine WQ_code ?_
    refine WC_seq ?_
    refine WC_region ?_
    refine WL_val rfl rfl rfl (R_move rfl rfl) ?_
    refine WL_val rfl rfl rfl (R_makeFunc rfl rfl rfl) ?_
    refine WL_do rfl rfl rfl (D_call (maxf_ok l o c tl own 50 [ptrB b1] [⟨some b1, cl [ptrB m.p] 31⟩, bE1 m, bE2 { m with L := bump m.L l }] (weiQ (bump m.L l)) (hf b1) hl (by omega)) rfl rfl rfl rfl (pqY)) ?_
    rintro _ _ ⟨_, ⟨rfl, rfl⟩, rfl⟩
    obtain ⟨b9, y8, hbw, hy8⟩ := hin (weiI (bump m.L l) l) (sel_mem _ (by intro e; rw [e] at hl; simp at hl))
    have hb9 := (List.getElem?_eq_some_iff.1 hy8).1
    refine WL_set (s := 49) (v := .int .i64 (b9 : Int)) rfl (congrArg (Value.int .i64) hbw) ?_
    refine WL_val rfl rfl rfl (R_assign rfl rfl) ?_
    refine WL_nil ?_
    refine WQ_code ?_
    refine WC_seq ?_
    refine WC_region ?_
    refine WL_val rfl rfl rfl (R_load rfl sc31 rfl (mmY) rfl) ?_
    refine WL_val rfl rfl rfl (R_nilCheck rfl rfl) ?_
    refine WL_val rfl rfl rfl (R_fieldAddr rfl fa57_1 rfl) ?_
    refine WL_val rfl rfl rfl (R_load rfl sc54 rfl (mmY) rfl) ?_
    refine WL_val rfl rfl rfl (R_move rfl rfl) ?_
    have hzl : b9 < (bump m.L l).length := by rw [bump_len]; exact hb9
    obtain ⟨z9, hz9⟩ := getE (T := bump m.L l) (i := b9) hzl
    obtain ⟨z8, hz8, ez8, bz1, bz2⟩ := bump_get _ hm.w hz9
    have hys := hm.sh z8 (List.mem_of_getElem? hz8)
    have hb9n : b9 < m.n := by rw [← hm.hn]; exact hb9
    have hsw := sumW_in m.L hm.w l hin
    refine WL_val rfl rfl rfl (R_indexAddrN rfl Try.underlying54 Try.sizeOf73 rfl rfl (by omega)) ?_
    refine WL_val rfl rfl rfl (R_fieldAddr rfl fa73_1 rfl) ?_
    refine WL_val rfl rfl rfl (R_load (v := .int .i64 z9.sh) rfl sc3 rfl (mmY) (fm_get0 encB5 hz9 (j := 1) (by omega))) ?_
    refine WL_val rfl rfl rfl (R_move rfl rfl) ?_
    refine WL_val rfl rfl rfl (R_sub rfl rfl rfl (by omega)) ?_
    refine WL_val rfl rfl rfl (R_indexAddrN rfl Try.underlying54 Try.sizeOf73 rfl rfl (by omega)) ?_
    refine WL_val rfl rfl rfl (R_fieldAddr rfl fa73_1 rfl) ?_
    refine WL_do0 rfl rfl (D_store (vs := [_]) rfl Try.sizeOf3 rfl rfl rfl rfl rfl (plY) (by exact fm_room0 encB5 hzl (j := 1) (by omega))) ?_
    rintro _ _ rfl
    have hput := fm_put0 encB5 ({ z9 with sh := z9.sh - sumW m.L l } : Bk) hz9 (j := 1) (vs := [.int .i64 (z9.sh - sumW m.L l)]) (by simp) rfl (tl := m.tl)
    rw [hput]
    have hdr : (bump m.L l).set b9 { z9 with sh := z9.sh - sumW m.L l } = drop1 (bump m.L l) (weiI (bump m.L l) l) (sumW m.L l) := by unfold drop1; rw [hbw, gB_at hz9, Int.toNat_natCast]
    rw [hdr]
    refine WL_nil ?_
    refine WQ_code ?_
    refine WC_seq ?_
    refine WC_region ?_
    refine WL_val rfl rfl rfl (R_move rfl rfl) ?_
    refine WL_val rfl rfl rfl (R_assign rfl rfl) ?_
    refine WL_nil ?_
    refine WQ_code ?_
    refine WC_ret ?_
    refine WQ_ret rfl rfl (.cons (.tmp rfl) .nil) rfl (by
        exact ⟨congrArg (Value.int .i64) hbw.symm, rfl⟩) (pqY)
theorem bhash_ok (m : Bm) (l : List Int) (o : Option Nat) (c : Nat) (tl : List Value) (own : Own o l.length c 1 (ivs l) tl) (hl : 1 ≤ l.length) (hb : l.length ≤ 64) (key : ByteArray) (hk : key.size ≤ 1000) :
    Spec Try.prog 37 [ptrB m.p, slV o l.length c, .string key] [bE1 m, bE2 m, ⟨o, cl (ivs l ++ tl) 3⟩] (fun r H' => r = .int .i64 (hashI key l) ∧ H' = [bE1 m, bE2 m]) := by
  have hf : ∀ bc, ∀ a ∈ l, ∀ b ∈ l, Spec Try.prog 52 (.int .i64 a :: .int .i64 b :: [ptrB bc]) [⟨some bc, cl [.string key] 9⟩] (fun r H' => r = .int .i64 (hashQ key a b) ∧ [⟨some bc, cl [.string key] 9⟩] = H') := fun bc a ha b hb =>
    (bh1_ok key hk bc a b).mono fun r H' ⟨h1, h2⟩ => ⟨h1, h2.symm⟩
  refine Spec.of (E := [(0, ptrB m.p), (1, slV o l.length c), (2, .string key)]) Try.func37 rfl (by kernel_rfl) Try.ntmps37 rfl rfl (fun w => ?_)
  refine WC_seq ?_
  refine WC_region ?_
  refine WL_do rfl rfl rfl (D_box (cs := [_]) rfl rfl rfl) ?_
  rintro _ _ ⟨b1, rfl, rfl⟩
  refine WL_val rfl rfl rfl (R_assign rfl rfl) ?_
  refine WL_nil ?_
  refine WQ_code ?_
  refine WC_seq ?_
  refine WC_region ?_
  refine WL_val rfl rfl rfl (R_move rfl rfl) ?_
  refine WL_val rfl rfl rfl (R_makeFunc rfl rfl rfl) ?_
  refine WL_do rfl rfl rfl (D_call (maxf_ok l o c tl own 52 [ptrB b1] [⟨some b1, cl [.string key] 9⟩] (hashQ key) (hf b1) hl (by omega)) rfl rfl rfl rfl (pqY)) ?_
  rintro _ _ ⟨_, ⟨rfl, rfl⟩, rfl⟩
  refine WL_val rfl rfl rfl (R_assign rfl rfl) ?_
  refine WL_nil ?_
  refine WQ_code ?_
  refine WC_ret ?_
  refine WQ_ret rfl rfl (.cons (.tmp rfl) .nil) rfl (by
      exact ⟨rfl, rfl⟩) (pqY)

end Go.Proofs.Ytiokpmgbabpikaa
