/-
  Chapter 17 (registry), part Reg2: contracts of functions that the laws call, each for the heap it names.
-/
import Derived.Test.YtiomimjjdbijmaaRows
import Derived.Test.YtiomimjjdbijmaaZB
import Derived.Test.YtiomimjjdbijmaaSLMapJ
import Derived.Test.YtiomimjjdbijmaaSLScope
import Derived.Test.YtiomimjjdbijmaaTab
import Derived.Test.YtiomimjjdbijmaaReg1
import Derived.Test.YtiomimjjdbijmaaRegB
set_option linter.unusedVariables false
set_option maxRecDepth 20000
set_option maxHeartbeats 2000000
namespace Go.Proofs.Ytiomimjjdbijmaa


theorem rbind_ok {W : List Bd} {r : Rg} (hr : RgIs W r) (s : ByteArray) (p v : Int) : Spec Try.prog 21 [ptrR r.p, .agg #[.string s, .int .i64 p], .int .i64 v] (rgH r) (fun x H' => ∃ r', x = .tuple #[adV (bndR W (s, p) v), .int .i64 (bndE W (s, p) v)] ∧ H' = rgH r' ∧ r'.p = r.p ∧ RgIs (bndW W (s, p) v) r') := by
  have hlen := hr.len
  have hfo := (frN_out hr.len s).2
  refine Spec.of (E := [(0, ptrR r.p), (1, .agg #[.string s, .int .i64 p]), (2, .int .i64 v)]) Try.func21 rfl (by kernel_rfl) Try.ntmps21 rfl rfl (fun w => ?_)
  refine WC_seq ?_
  refine WC_region ?_
  refine WL_do rfl rfl rfl (D_box (cs := [_, _]) rfl rfl rfl) ?_
  rintro _ _ ⟨b1, rfl, rfl⟩
  refine WL_do rfl rfl rfl (D_alloc rfl zv23) ?_
  rintro _ _ ⟨b2, rfl, rfl⟩
  refine WL_val rfl rfl rfl (R_assign rfl rfl) ?_
  refine WL_nil ?_
  refine WQ_code ?_
  refine WC_seq ?_
  refine WC_block ?_
  refine WC_seq ?_
  refine WC_region ?_
  refine WL_val rfl rfl rfl (R_move rfl rfl) ?_
  refine WL_do rfl rfl rfl (D_call (none_ok r) rfl rfl rfl rfl (pqZ)) ?_
  rintro _ _ ⟨_, ⟨rfl, rfl⟩, rfl⟩
  refine WL_val rfl rfl rfl (R_assign rfl rfl) ?_
  refine WL_nil ?_
  refine WQ_code ?_
  refine WC_F rfl ?_
  refine WC_seq ?_
  refine WC_region ?_
  refine WL_val rfl rfl rfl (R_loadA (vs := [_, _]) rfl ag23 rfl (mmZ) rfl (atZ)) ?_
  refine WL_do rfl rfl rfl (D_call (avalid_ok s p) rfl rfl rfl rfl (pqZ)) ?_
  rintro _ _ ⟨_, ⟨rfl, rfl⟩, rfl⟩
  refine WL_val rfl rfl rfl (R_not rfl rfl) ?_
  refine WL_val rfl rfl rfl (R_move rfl rfl) ?_
  refine WL_split (s := 18) rfl (fun c1 => ?_) (fun c1 => ?_)
  · refine WL_skip rfl rfl rfl ?_
    refine WL_skip rfl rfl rfl ?_
    refine WL_val rfl rfl rfl (R_pickT rfl rfl rfl) ?_
    refine WL_val rfl rfl rfl (R_assign rfl rfl) ?_
    refine WL_nil ?_
    refine WQ_code ?_
    refine WC_T rfl ?_
    refine WC_seq ?_
    refine WC_region ?_
    refine WL_val rfl rfl rfl (R_build rfl zv23 pl23 rfl rfl) ?_
    refine WL_do0 rfl rfl (D_store (vs := [_, _]) rfl Try.sizeOf23 rfl rfl rfl rfl rfl (plZ) (by exact Nat.le_of_ble_eq_true rfl)) ?_
    rintro _ _ rfl
    refine WL_val rfl rfl rfl (R_assign rfl rfl) ?_
    refine WL_nil ?_
    refine WQ_code ?_
    refine WC_ret ?_
    refine WQ_ret rfl rfl (.cons (.cell (vs := [_, _]) rfl ag23 (mmZ) rfl (atZ)) (.cons (.tmp rfl) .nil)) rfl (by
        exact ⟨r, by rw [(bnd_arg (by simp_all)).1, (bnd_arg (by simp_all)).2.2]; rfl, rfl, rfl, by rw [(bnd_arg (by simp_all)).2.1]; exact hr⟩) (pqZ)
  · refine WL_val rfl rfl rfl (R_move rfl rfl) ?_
    refine WL_val rfl rfl rfl (R_lss rfl rfl rfl) ?_
    refine WL_val rfl rfl rfl (R_pickF rfl rfl rfl) ?_
    refine WL_val rfl rfl rfl (R_assign rfl rfl) ?_
    refine WL_nil ?_
    refine WQ_code ?_
    refine WC_dec rfl (fun c2 => ?_) (fun c2 => ?_)
    · refine WC_seq ?_
      refine WC_region ?_
      refine WL_val rfl rfl rfl (R_build rfl zv23 pl23 rfl rfl) ?_
      refine WL_do0 rfl rfl (D_store (vs := [_, _]) rfl Try.sizeOf23 rfl rfl rfl rfl rfl (plZ) (by exact Nat.le_of_ble_eq_true rfl)) ?_
      rintro _ _ rfl
      refine WL_val rfl rfl rfl (R_assign rfl rfl) ?_
      refine WL_nil ?_
      refine WQ_code ?_
      refine WC_ret ?_
      refine WQ_ret rfl rfl (.cons (.cell (vs := [_, _]) rfl ag23 (mmZ) rfl (atZ)) (.cons (.tmp rfl) .nil)) rfl (by
          exact ⟨r, by rw [(bnd_arg (by simp_all)).1, (bnd_arg (by simp_all)).2.2]; rfl, rfl, rfl, by rw [(bnd_arg (by simp_all)).2.1]; exact hr⟩) (pqZ)
    · refine WC_seq ?_
      refine WC_region ?_
      refine WL_val rfl rfl rfl (R_fieldAddr rfl fa23_1 rfl) ?_
      refine WL_val rfl rfl rfl (R_load rfl sc3 rfl (mmZ) rfl) ?_
      refine WL_val rfl rfl rfl (R_eql rfl rfl rfl) ?_
      refine WL_val rfl rfl rfl (R_assign rfl rfl) ?_
      refine WL_nil ?_
      refine WQ_code ?_
      refine WC_dec rfl (fun c3 => ?_) (fun c3 => ?_)
      · have hv9 := hfo
        · refine WC_region ?_
          refine WL_val rfl rfl rfl (R_move rfl rfl) ?_
          refine WL_val rfl rfl rfl (R_fieldAddr rfl fa23_0 rfl) ?_
          refine WL_val rfl rfl rfl (R_load rfl sc9 rfl (mmZ) rfl) ?_
          refine WL_do rfl rfl rfl (D_call (free0_ok hr s) rfl rfl rfl rfl (pqZ)) ?_
          rintro _ _ ⟨_, ⟨rfl, rfl⟩, rfl⟩
          refine WL_val rfl rfl rfl (R_fieldAddr rfl fa23_1 rfl) ?_
          refine WL_do0 rfl rfl (D_store (vs := [_]) rfl Try.sizeOf3 rfl rfl rfl rfl rfl (plZ) (by exact Nat.le_of_ble_eq_true rfl)) ?_
          rintro _ _ rfl
          refine WL_nil ?_
          refine WQ_code ?_
          refine WC_seq ?_
          refine WC_seq ?_
          refine WC_draw _ [(0, true), (1, true), (2, true), (3, true), (4, true), (5, true), (6, true), (7, true), (8, true), (9, true), (10, true)] followsMixed rfl rfl (by kernel_rfl) .all ?_
          refine WM_val rfl rfl rfl rfl (R_move rfl rfl) ?_
          refine WM_val rfl rfl rfl rfl (R_nilCheck rfl rfl) ?_
          refine WM_val rfl rfl rfl rfl (R_fieldAddr rfl fa60_0 rfl) ?_
          refine WM_val rfl rfl rfl rfl (R_load rfl sc58 rfl (mmZ) rfl) ?_
          refine WM_val rfl rfl rfl rfl (R_loadA (vs := [_, _]) rfl ag23 rfl (mmZ) rfl (atZ)) ?_
          refine WM_val rfl rfl rfl rfl (R_lookKF (k := fpt s (frN W s)) (zv := .int .i64 0) rfl Try.underlying58 addr_key rfl rfl mmZ hr.mp hv9 (fun w => Try.zeroValue3 w)) ?_
          refine WM_val rfl rfl rfl rfl (R_move rfl rfl) ?_
          refine WM_val rfl rfl rfl rfl (R_extract rfl rfl rfl) ?_
          refine WM_val rfl rfl rfl rfl (R_extract rfl rfl rfl) ?_
          refine WM_set (s := 40) (v := .bool false) rfl (by rfl) ?_
          refine WM_val rfl rfl rfl rfl (R_assign rfl rfl) ?_
          refine WM_val rfl rfl rfl rfl (R_assign rfl rfl) ?_
          refine WM_nil ?_
          refine WQ_code ?_
          refine WC_seq ?_
          refine WC_region ?_
          refine WL_val rfl rfl rfl (R_move rfl rfl) ?_
          refine WL_nil ?_
          refine WQ_code ?_
          refine WC_F rfl ?_
          refine WC_skip ?_
          refine WQ_code ?_
          refine WC_seq ?_
          refine WC_seq ?_
          refine WC_region ?_
          refine WL_val rfl rfl rfl (R_move rfl rfl) ?_
          refine WL_val rfl rfl rfl (R_nilCheck rfl rfl) ?_
          refine WL_val rfl rfl rfl (R_fieldAddr rfl fa60_0 rfl) ?_
          refine WL_val rfl rfl rfl (R_load rfl sc58 rfl (mmZ) rfl) ?_
          refine WL_val rfl rfl rfl (R_lenMapK rfl Try.underlying58 rfl mmZ hr.mp) ?_
          refine WL_val rfl rfl rfl (R_geq rfl rfl rfl) ?_
          refine WL_nil ?_
          refine WQ_code ?_
          refine WC_dec rfl (fun c4 => ?_) (fun c4 => ?_)
          · refine WC_seq ?_
            refine WC_region ?_
            refine WL_val rfl rfl rfl (R_build rfl zv23 pl23 rfl rfl) ?_
            refine WL_do0 rfl rfl (D_store (vs := [_, _]) rfl Try.sizeOf23 rfl rfl rfl rfl rfl (plZ) (by exact Nat.le_of_ble_eq_true rfl)) ?_
            rintro _ _ rfl
            refine WL_val rfl rfl rfl (R_assign rfl rfl) ?_
            refine WL_nil ?_
            refine WQ_code ?_
            refine WC_ret ?_
            refine WQ_ret rfl rfl (.cons (.cell (vs := [_, _]) rfl ag23 (mmZ) rfl (atZ)) (.cons (.tmp rfl) .nil)) rfl (by
                first | (have h9 := bnd_full (W := W) (a := (s, p)) (v := v) (by simp_all) (by omega) (by rw [bndA_0 (by assumption)]; exact hv9) (by omega); exact ⟨r, by rw [h9.1, h9.2.2]; rfl, rfl, rfl, by rw [h9.2.1]; exact hr⟩) | (have h9 := bnd_ok (W := W) (a := (s, p)) (v := v) (by simp_all) (by omega) (by rw [bndA_0 (by assumption)]; exact hv9) (by omega); rw [bndA_0 (by assumption)] at h9; exact ⟨⟨r.p, r.mb, es9, r.c + 1⟩, by rw [h9.1, h9.2.2]; rfl, rfl, rfl, by rw [h9.2.1]; exact hr.add hv9 (by omega) hM9⟩)) (pqZ)
          · refine WC_skip ?_
            refine WQ_code ?_
            refine WC_seq ?_
            refine WC_drawR [⟨some r.mb, _⟩] [(0, true), (1, true), (2, true), (3, true), (4, true), (5, true), (6, false)] followsMixed rfl rfl (by kernel_rfl) (pqZ) ?_
            refine WM_val rfl rfl rfl rfl (R_move rfl rfl) ?_
            refine WM_val rfl rfl rfl rfl (R_nilCheck rfl rfl) ?_
            refine WM_val rfl rfl rfl rfl (R_fieldAddr rfl fa60_0 rfl) ?_
            refine WM_val rfl rfl rfl rfl (R_load rfl sc58 rfl (mmZ) rfl) ?_
            refine WM_val rfl rfl rfl rfl (R_loadA (vs := [_, _]) rfl ag23 rfl (mmZ) rfl (atZ)) ?_
            refine WM_val rfl rfl rfl rfl (R_move rfl rfl) ?_
            refine WM_do0 rfl rfl rfl (D_mapAddK (k := fpt s (frN W s)) (v := v) rfl Try.underlying58 addr_key rfl rfl rfl plZ hr.mp hv9) ?_
            rintro _ _ ⟨es9, hM9, rfl⟩
            refine ⟨⟨_, pqZ⟩, ?_⟩
            refine WM_nil ?_
            refine WQ_code ?_
            refine WC_seq ?_
            refine WC_region ?_
            refine WL_val rfl rfl rfl (R_loadA (vs := [_, _]) rfl ag23 rfl (mmZ) rfl (atZ)) ?_
            refine WL_do0 rfl rfl (D_store (vs := [_, _]) rfl Try.sizeOf23 rfl rfl rfl rfl rfl (plZ) (by exact Nat.le_of_ble_eq_true rfl)) ?_
            rintro _ _ rfl
            refine WL_val rfl rfl rfl (R_assign rfl rfl) ?_
            refine WL_nil ?_
            refine WQ_code ?_
            refine WC_ret ?_
            refine WQ_ret rfl rfl (.cons (.cell (vs := [_, _]) rfl ag23 (mmZ) rfl (atZ)) (.cons (.tmp rfl) .nil)) rfl (by
                first | (have h9 := bnd_full (W := W) (a := (s, p)) (v := v) (by simp_all) (by omega) (by rw [bndA_0 (by assumption)]; exact hv9) (by omega); exact ⟨r, by rw [h9.1, h9.2.2]; rfl, rfl, rfl, by rw [h9.2.1]; exact hr⟩) | (have h9 := bnd_ok (W := W) (a := (s, p)) (v := v) (by simp_all) (by omega) (by rw [bndA_0 (by assumption)]; exact hv9) (by omega); rw [bndA_0 (by assumption)] at h9; exact ⟨⟨r.p, r.mb, es9, r.c + 1⟩, by rw [h9.1, h9.2.2]; rfl, rfl, rfl, by rw [h9.2.1]; exact hr.add hv9 (by omega) hM9⟩)) (pqZ)
      · rcases look_or W (s, p) with ⟨v9, hv9⟩ | hv9
        · refine WC_skip ?_
          refine WQ_code ?_
          refine WC_seq ?_
          refine WC_seq ?_
          refine WC_draw _ [(0, true), (1, true), (2, true), (3, true), (4, true), (5, true), (6, true), (7, true), (8, true), (9, true), (10, true)] followsMixed rfl rfl (by kernel_rfl) .all ?_
          refine WM_val rfl rfl rfl rfl (R_move rfl rfl) ?_
          refine WM_val rfl rfl rfl rfl (R_nilCheck rfl rfl) ?_
          refine WM_val rfl rfl rfl rfl (R_fieldAddr rfl fa60_0 rfl) ?_
          refine WM_val rfl rfl rfl rfl (R_load rfl sc58 rfl (mmZ) rfl) ?_
          refine WM_val rfl rfl rfl rfl (R_loadA (vs := [_, _]) rfl ag23 rfl (mmZ) rfl (atZ)) ?_
          refine WM_val rfl rfl rfl rfl (R_lookKT (k := ((s, p) : Ad)) (a := v9) rfl Try.underlying58 addr_key rfl rfl mmZ hr.mp hv9) ?_
          refine WM_val rfl rfl rfl rfl (R_move rfl rfl) ?_
          refine WM_val rfl rfl rfl rfl (R_extract rfl rfl rfl) ?_
          refine WM_val rfl rfl rfl rfl (R_extract rfl rfl rfl) ?_
          refine WM_set (s := 40) (v := .bool true) rfl (by rfl) ?_
          refine WM_val rfl rfl rfl rfl (R_assign rfl rfl) ?_
          refine WM_val rfl rfl rfl rfl (R_assign rfl rfl) ?_
          refine WM_nil ?_
          refine WQ_code ?_
          refine WC_seq ?_
          refine WC_region ?_
          refine WL_val rfl rfl rfl (R_move rfl rfl) ?_
          refine WL_nil ?_
          refine WQ_code ?_
          refine WC_T rfl ?_
          refine WC_seq ?_
          refine WC_region ?_
          refine WL_val rfl rfl rfl (R_build rfl zv23 pl23 rfl rfl) ?_
          refine WL_do0 rfl rfl (D_store (vs := [_, _]) rfl Try.sizeOf23 rfl rfl rfl rfl rfl (plZ) (by exact Nat.le_of_ble_eq_true rfl)) ?_
          rintro _ _ rfl
          refine WL_val rfl rfl rfl (R_assign rfl rfl) ?_
          refine WL_nil ?_
          refine WQ_code ?_
          refine WC_ret ?_
          refine WQ_ret rfl rfl (.cons (.cell (vs := [_, _]) rfl ag23 (mmZ) rfl (atZ)) (.cons (.tmp rfl) .nil)) rfl (by
              have h9 := bnd_busy (W := W) (a := (s, p)) (v := v) (by simp_all) (by omega) (by rw [bndA_p (by assumption)]; exact in_kys hv9)
              exact ⟨r, by rw [h9.1, h9.2.2]; rfl, rfl, rfl, by rw [h9.2.1]; exact hr⟩) (pqZ)
        · refine WC_skip ?_
          refine WQ_code ?_
          refine WC_seq ?_
          refine WC_seq ?_
          refine WC_draw _ [(0, true), (1, true), (2, true), (3, true), (4, true), (5, true), (6, true), (7, true), (8, true), (9, true), (10, true)] followsMixed rfl rfl (by kernel_rfl) .all ?_
          refine WM_val rfl rfl rfl rfl (R_move rfl rfl) ?_
          refine WM_val rfl rfl rfl rfl (R_nilCheck rfl rfl) ?_
          refine WM_val rfl rfl rfl rfl (R_fieldAddr rfl fa60_0 rfl) ?_
          refine WM_val rfl rfl rfl rfl (R_load rfl sc58 rfl (mmZ) rfl) ?_
          refine WM_val rfl rfl rfl rfl (R_loadA (vs := [_, _]) rfl ag23 rfl (mmZ) rfl (atZ)) ?_
          refine WM_val rfl rfl rfl rfl (R_lookKF (k := ((s, p) : Ad)) (zv := .int .i64 0) rfl Try.underlying58 addr_key rfl rfl mmZ hr.mp hv9 (fun w => Try.zeroValue3 w)) ?_
          refine WM_val rfl rfl rfl rfl (R_move rfl rfl) ?_
          refine WM_val rfl rfl rfl rfl (R_extract rfl rfl rfl) ?_
          refine WM_val rfl rfl rfl rfl (R_extract rfl rfl rfl) ?_
          refine WM_set (s := 40) (v := .bool false) rfl (by rfl) ?_
          refine WM_val rfl rfl rfl rfl (R_assign rfl rfl) ?_
          refine WM_val rfl rfl rfl rfl (R_assign rfl rfl) ?_
          refine WM_nil ?_
          refine WQ_code ?_
          refine WC_seq ?_
          refine WC_region ?_
          refine WL_val rfl rfl rfl (R_move rfl rfl) ?_
          refine WL_nil ?_
          refine WQ_code ?_
          refine WC_F rfl ?_
          refine WC_skip ?_
          refine WQ_code ?_
          refine WC_seq ?_
          refine WC_seq ?_
          refine WC_region ?_
          refine WL_val rfl rfl rfl (R_move rfl rfl) ?_
          refine WL_val rfl rfl rfl (R_nilCheck rfl rfl) ?_
          refine WL_val rfl rfl rfl (R_fieldAddr rfl fa60_0 rfl) ?_
          refine WL_val rfl rfl rfl (R_load rfl sc58 rfl (mmZ) rfl) ?_
          refine WL_val rfl rfl rfl (R_lenMapK rfl Try.underlying58 rfl mmZ hr.mp) ?_
          refine WL_val rfl rfl rfl (R_geq rfl rfl rfl) ?_
          refine WL_nil ?_
          refine WQ_code ?_
          refine WC_dec rfl (fun c5 => ?_) (fun c5 => ?_)
          · refine WC_seq ?_
            refine WC_region ?_
            refine WL_val rfl rfl rfl (R_build rfl zv23 pl23 rfl rfl) ?_
            refine WL_do0 rfl rfl (D_store (vs := [_, _]) rfl Try.sizeOf23 rfl rfl rfl rfl rfl (plZ) (by exact Nat.le_of_ble_eq_true rfl)) ?_
            rintro _ _ rfl
            refine WL_val rfl rfl rfl (R_assign rfl rfl) ?_
            refine WL_nil ?_
            refine WQ_code ?_
            refine WC_ret ?_
            refine WQ_ret rfl rfl (.cons (.cell (vs := [_, _]) rfl ag23 (mmZ) rfl (atZ)) (.cons (.tmp rfl) .nil)) rfl (by
                first | (have h9 := bnd_full (W := W) (a := (s, p)) (v := v) (by simp_all) (by omega) (by rw [bndA_p (by assumption)]; exact hv9) (by omega); exact ⟨r, by rw [h9.1, h9.2.2]; rfl, rfl, rfl, by rw [h9.2.1]; exact hr⟩) | (have h9 := bnd_ok (W := W) (a := (s, p)) (v := v) (by simp_all) (by omega) (by rw [bndA_p (by assumption)]; exact hv9) (by omega); rw [bndA_p (by assumption)] at h9; exact ⟨⟨r.p, r.mb, es9, r.c + 1⟩, by rw [h9.1, h9.2.2]; rfl, rfl, rfl, by rw [h9.2.1]; exact hr.add hv9 (by omega) hM9⟩)) (pqZ)
          · refine WC_skip ?_
            refine WQ_code ?_
            refine WC_seq ?_
            refine WC_drawR [⟨some r.mb, _⟩] [(0, true), (1, true), (2, true), (3, true), (4, true), (5, true), (6, false)] followsMixed rfl rfl (by kernel_rfl) (pqZ) ?_
            refine WM_val rfl rfl rfl rfl (R_move rfl rfl) ?_
            refine WM_val rfl rfl rfl rfl (R_nilCheck rfl rfl) ?_
            refine WM_val rfl rfl rfl rfl (R_fieldAddr rfl fa60_0 rfl) ?_
            refine WM_val rfl rfl rfl rfl (R_load rfl sc58 rfl (mmZ) rfl) ?_
            refine WM_val rfl rfl rfl rfl (R_loadA (vs := [_, _]) rfl ag23 rfl (mmZ) rfl (atZ)) ?_
            refine WM_val rfl rfl rfl rfl (R_move rfl rfl) ?_
            refine WM_do0 rfl rfl rfl (D_mapAddK (k := ((s, p) : Ad)) (v := v) rfl Try.underlying58 addr_key rfl rfl rfl plZ hr.mp hv9) ?_
            rintro _ _ ⟨es9, hM9, rfl⟩
            refine ⟨⟨_, pqZ⟩, ?_⟩
            refine WM_nil ?_
            refine WQ_code ?_
            refine WC_seq ?_
            refine WC_region ?_
            refine WL_val rfl rfl rfl (R_loadA (vs := [_, _]) rfl ag23 rfl (mmZ) rfl (atZ)) ?_
            refine WL_do0 rfl rfl (D_store (vs := [_, _]) rfl Try.sizeOf23 rfl rfl rfl rfl rfl (plZ) (by exact Nat.le_of_ble_eq_true rfl)) ?_
            rintro _ _ rfl
            refine WL_val rfl rfl rfl (R_assign rfl rfl) ?_
            refine WL_nil ?_
            refine WQ_code ?_
            refine WC_ret ?_
            refine WQ_ret rfl rfl (.cons (.cell (vs := [_, _]) rfl ag23 (mmZ) rfl (atZ)) (.cons (.tmp rfl) .nil)) rfl (by
                first | (have h9 := bnd_full (W := W) (a := (s, p)) (v := v) (by simp_all) (by omega) (by rw [bndA_p (by assumption)]; exact hv9) (by omega); exact ⟨r, by rw [h9.1, h9.2.2]; rfl, rfl, rfl, by rw [h9.2.1]; exact hr⟩) | (have h9 := bnd_ok (W := W) (a := (s, p)) (v := v) (by simp_all) (by omega) (by rw [bndA_p (by assumption)]; exact hv9) (by omega); rw [bndA_p (by assumption)] at h9; exact ⟨⟨r.p, r.mb, es9, r.c + 1⟩, by rw [h9.1, h9.2.2]; rfl, rfl, rfl, by rw [h9.2.1]; exact hr.add hv9 (by omega) hM9⟩)) (pqZ)

end Go.Proofs.Ytiomimjjdbijmaa
