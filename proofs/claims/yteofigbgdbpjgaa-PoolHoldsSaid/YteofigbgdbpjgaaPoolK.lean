/-
  Chapter 46 (pool), part PoolK: contracts of functions that the laws call, each for the heap it names.
-/
import Derived.Test.YteofigbgdbpjgaaRows
import Derived.Test.YteofigbgdbpjgaaZB
import Derived.Test.YteofigbgdbpjgaaSLMapJ
import Derived.Test.YteofigbgdbpjgaaSLScope
import Derived.Test.YteofigbgdbpjgaaTab
import Derived.Test.YteofigbgdbpjgaaPoolJ
set_option linter.unusedVariables false
set_option maxRecDepth 20000
set_option maxHeartbeats 4000000
namespace Go.Proofs.Yteofigbgdbpjgaa


theorem pget_ok {m : PM} {s : PS} (h : PIs m s) (hE : s.E.length ≤ 10000) (hn : s.n < 1000000000000) (who : Int) (now dl : Nat) (hb : now ≤ 18446744073709551615) : Spec Try.prog 15 [ptrP m.p, .int .i64 who, .int .u64 (now : Int), .int .u64 (dl : Int)] (poH m s)
    (fun r H' => ∃ m', r = .tuple #[pvV (s.getV who now dl), .int .i64 (getE_ s who now dl)] ∧ H' = poH m' (s.getS who now dl) ∧ m'.p = m.p ∧ PIs m' (s.getS who now dl)) := by
  have hql := h.ql
  have hlen := allI_len 3 s.C
  rw [h.cl] at hlen
  refine Spec.of (E := [(0, ptrP m.p), (1, .int .i64 who), (2, .int .u64 (now : Int)), (3, .int .u64 (dl : Int))]) Try.func15 rfl (by kernel_rfl) Try.ntmps15 rfl rfl (fun w => ?_)
  refine WC_seq ?_
  refine WC_region ?_
  refine WL_do rfl rfl rfl (D_box (cs := [_]) rfl rfl rfl) ?_
  rintro _ _ ⟨b1, rfl, rfl⟩
  refine WL_do rfl rfl rfl (D_box (cs := [_]) rfl rfl rfl) ?_
  rintro _ _ ⟨b2, rfl, rfl⟩
  refine WL_do rfl rfl rfl (D_alloc rfl zv44) ?_
  rintro _ _ ⟨b3, rfl, rfl⟩
  refine WL_val rfl rfl rfl (R_assign rfl rfl) ?_
  refine WL_nil ?_
  refine WQ_code ?_
  refine WC_seq ?_
  refine WC_region ?_
  refine WL_val rfl rfl rfl (R_load rfl sc23 rfl (mmZ) rfl) ?_
  refine WL_val rfl rfl rfl (R_load rfl sc3 rfl (mmZ) rfl) ?_
  refine WL_val rfl rfl rfl (R_geq rfl rfl rfl) ?_
  refine WL_val rfl rfl rfl (R_move rfl rfl) ?_
  refine WL_splitD (s := 21) rfl (fun c1 => ?_) (fun c1 => ?_)
  · have hg := c1
    refine WL_val rfl rfl rfl (R_load rfl sc3 rfl (mmZ) rfl) ?_
    refine WL_val rfl rfl rfl (R_leq rfl rfl rfl) ?_
    refine WL_val rfl rfl rfl (R_pickT rfl rfl rfl) ?_
    refine WL_val rfl rfl rfl (R_move rfl rfl) ?_
    refine WL_set (s := 24) (v := .bool (decide (0 ≤ who ∧ who ≤ 1000))) rfl (by first | exact congrArg Value.bool (decide_eq_decide.2 (by omega)) | exact congrArg Value.bool (decide_eq_false (by omega)).symm) ?_
    refine WL_do rfl rfl rfl (D_call (pmay_ok h (decide (0 ≤ who ∧ who ≤ 1000)) now) rfl rfl rfl rfl (pqZ)) ?_
    rintro _ _ ⟨_, ⟨rfl, rfl⟩, rfl⟩
    refine WL_val rfl rfl rfl (R_assign rfl rfl) ?_
    refine WL_nil ?_
    refine WQ_code ?_
    refine WC_seq ?_
    refine WC_block ?_
    refine WC_seq ?_
    refine WC_region ?_
    refine WL_val rfl rfl rfl (R_move rfl rfl) ?_
    refine WL_val rfl rfl rfl (R_neq rfl rfl rfl) ?_
    refine WL_val rfl rfl rfl (R_assign rfl rfl) ?_
    refine WL_nil ?_
    refine WQ_code ?_
    refine WC_dec rfl (fun c2 => ?_) (fun c2 => ?_)
    · have hm := c2
      refine WC_seq ?_
      refine WC_region ?_
      refine WL_val rfl rfl rfl (R_build rfl zv44 pl44 rfl rfl) ?_
      refine WL_val rfl rfl rfl (R_move rfl rfl) ?_
      refine WL_do0 rfl rfl (D_store (vs := [_, _, _]) rfl Try.sizeOf44 rfl rfl rfl rfl rfl (plZ) (by exact Nat.le_of_ble_eq_true rfl)) ?_
      rintro _ _ rfl
      refine WL_val rfl rfl rfl (R_assign rfl rfl) ?_
      refine WL_nil ?_
      refine WQ_code ?_
      refine WC_ret ?_
      refine WQ_ret rfl rfl (.cons (.cell (vs := [_, _, _]) rfl ag44 (mmZ) rfl (atZ)) (.cons (.tmp rfl) .nil)) rfl (by
          have he : getE_ s who now dl = _ := getE_may hm
          have hg9 := get_err (s := s) (who := who) (now := now) (dl := dl) (by rw [he]; exact hm)
          exact ⟨m, by rw [hg9.2, he]; rfl, by rw [hg9.1], rfl, by rw [hg9.1]; exact h⟩) (pqZ)
    · have hm : s.may (decide (0 ≤ who ∧ who ≤ 1000)) now = 0 := Decidable.byContradiction c2
      refine WC_seq ?_
      refine WC_region ?_
      refine WL_val rfl rfl rfl (R_move rfl rfl) ?_
      refine WL_val rfl rfl rfl (R_move rfl rfl) ?_
      refine WL_val rfl rfl rfl (R_leq rfl rfl rfl) ?_
      refine WL_val rfl rfl rfl (R_assign rfl rfl) ?_
      refine WL_nil ?_
      refine WQ_code ?_
      refine WC_dec rfl (fun c3 => ?_) (fun c3 => ?_)
      · have hd : dl ≤ now := by omega
        refine WC_seq ?_
        refine WC_region ?_
        refine WL_val rfl rfl rfl (R_build rfl zv44 pl44 rfl rfl) ?_
        refine WL_do0 rfl rfl (D_store (vs := [_, _, _]) rfl Try.sizeOf44 rfl rfl rfl rfl rfl (plZ) (by exact Nat.le_of_ble_eq_true rfl)) ?_
        rintro _ _ rfl
        refine WL_val rfl rfl rfl (R_assign rfl rfl) ?_
        refine WL_nil ?_
        refine WQ_code ?_
        refine WC_ret ?_
        refine WQ_ret rfl rfl (.cons (.cell (vs := [_, _, _]) rfl ag44 (mmZ) rfl (atZ)) (.cons (.tmp rfl) .nil)) rfl (by
            have he : getE_ s who now dl = _ := getE_late hm hd
            have hg9 := get_err (s := s) (who := who) (now := now) (dl := dl) (by rw [he]; decide)
            exact ⟨m, by rw [hg9.2, he]; rfl, by rw [hg9.1], rfl, by rw [hg9.1]; exact h⟩) (pqZ)
      · have hd : ¬ dl ≤ now := by omega
        rcases waits_or s who with ⟨A, x, B, hQ, rfl⟩ | ⟨hw, hno⟩
        · refine WC_skip ?_
          refine WQ_code ?_
          refine WC_seq ?_
          refine WC_draw _ [(0, true), (1, true), (2, true), (3, true), (4, true), (5, true), (6, true), (7, true), (8, true), (9, false), (10, false), (11, true)] followsMixed rfl rfl (by kernel_rfl) .all ?_
          refine WM_val rfl rfl rfl rfl (R_load rfl sc23 rfl (mmZ) rfl) ?_
          refine WM_val rfl rfl rfl rfl (R_nilCheck rfl rfl) ?_
          refine WM_val rfl rfl rfl rfl (R_fieldAddr rfl fa71_6 rfl) ?_
          refine WM_val rfl rfl rfl rfl (R_load (v := .map (some m.wm)) rfl sc69 rfl (mmZ) (pc_t h.cl rfl 1)) ?_
          refine WM_val rfl rfl rfl rfl (R_load rfl sc3 rfl (mmZ) rfl) ?_
          refine WM_val rfl rfl rfl rfl (R_lookKT (k := x.who) (a := (x.t, x.dl)) rfl Try.underlying69 int_key rfl rfl mmZ h.wM (by rw [hQ]; exact List.mem_map_of_mem (List.mem_append_right _ (List.mem_cons_self ..)))) ?_
          refine WM_val rfl rfl rfl rfl (R_move rfl rfl) ?_
          refine WM_val rfl rfl rfl rfl (R_extract rfl rfl rfl) ?_
          refine WM_val rfl rfl rfl rfl (R_extract rfl rfl rfl) ?_
          refine WM_set (s := 45) (v := .bool true) rfl (by rfl) ?_
          refine WM_do rfl rfl rfl rfl (D_alloc rfl zv86) ?_
          rintro _ _ ⟨b4, rfl, rfl⟩
          refine ⟨⟨_, pqZ⟩, ?_⟩
          refine WM_do0 rfl rfl rfl (D_store (vs := [_, _]) rfl Try.sizeOf86 rfl rfl rfl rfl rfl (plZ) (by exact Nat.le_of_ble_eq_true rfl)) ?_
          rintro _ _ rfl
          refine ⟨⟨_, pqZ⟩, ?_⟩
          refine WM_val rfl rfl rfl rfl (R_assign rfl rfl) ?_
          refine WM_nil ?_
          refine WQ_code ?_
          refine WC_seq ?_
          refine WC_seq ?_
          refine WC_region ?_
          refine WL_val rfl rfl rfl (R_move rfl rfl) ?_
          refine WL_val rfl rfl rfl (R_move rfl rfl) ?_
          refine WL_skip rfl rfl rfl ?_
          refine WL_skip rfl rfl rfl ?_
          refine WL_skip rfl rfl rfl ?_
          refine WL_skip rfl rfl rfl ?_
          refine WL_skip rfl rfl rfl ?_
          refine WL_skip rfl rfl rfl ?_
          refine WL_val rfl rfl rfl (R_pickT rfl rfl rfl) ?_
          refine WL_nil ?_
          refine WQ_code ?_
          refine WC_T rfl ?_
          refine WC_seq ?_
          refine WC_region ?_
          refine WL_val rfl rfl rfl (R_build rfl zv44 pl44 rfl rfl) ?_
          refine WL_do0 rfl rfl (D_store (vs := [_, _, _]) rfl Try.sizeOf44 rfl rfl rfl rfl rfl (plZ) (by exact Nat.le_of_ble_eq_true rfl)) ?_
          rintro _ _ rfl
          refine WL_val rfl rfl rfl (R_assign rfl rfl) ?_
          refine WL_nil ?_
          refine WQ_code ?_
          refine WC_ret ?_
          refine WQ_ret rfl rfl (.cons (.cell (vs := [_, _, _]) rfl ag44 (mmZ) rfl (atZ)) (.cons (.tmp rfl) .nil)) rfl (by
              have he := getE_busy hm hd (.inl (waits_in hQ))
              have hg9 := get_err (by rw [he]; decide)
              exact ⟨m, by rw [hg9.2, he]; rfl, by rw [hg9.1], rfl, by rw [hg9.1]; exact h⟩) (pqZ)
        · refine WC_skip ?_
          refine WQ_code ?_
          refine WC_seq ?_
          refine WC_draw _ [(0, true), (1, true), (2, true), (3, true), (4, true), (5, true), (6, true), (7, true), (8, true), (9, false), (10, false), (11, true)] followsMixed rfl rfl (by kernel_rfl) .all ?_
          refine WM_val rfl rfl rfl rfl (R_load rfl sc23 rfl (mmZ) rfl) ?_
          refine WM_val rfl rfl rfl rfl (R_nilCheck rfl rfl) ?_
          refine WM_val rfl rfl rfl rfl (R_fieldAddr rfl fa71_6 rfl) ?_
          refine WM_val rfl rfl rfl rfl (R_load (v := .map (some m.wm)) rfl sc69 rfl (mmZ) (pc_t h.cl rfl 1)) ?_
          refine WM_val rfl rfl rfl rfl (R_load rfl sc3 rfl (mmZ) rfl) ?_
          refine WM_val rfl rfl rfl rfl (R_lookKF (k := who) (zv := .agg #[.int .u64 0, .int .u64 0]) rfl Try.underlying69 int_key rfl rfl mmZ h.wM hno (fun w => Try.zeroValue86 w)) ?_
          refine WM_val rfl rfl rfl rfl (R_move rfl rfl) ?_
          refine WM_val rfl rfl rfl rfl (R_extract rfl rfl rfl) ?_
          refine WM_val rfl rfl rfl rfl (R_extract rfl rfl rfl) ?_
          refine WM_set (s := 45) (v := .bool false) rfl (by rfl) ?_
          refine WM_do rfl rfl rfl rfl (D_alloc rfl zv86) ?_
          rintro _ _ ⟨b5, rfl, rfl⟩
          refine ⟨⟨_, pqZ⟩, ?_⟩
          refine WM_do0 rfl rfl rfl (D_store (vs := [_, _]) rfl Try.sizeOf86 rfl rfl rfl rfl rfl (plZ) (by exact Nat.le_of_ble_eq_true rfl)) ?_
          rintro _ _ rfl
          refine ⟨⟨_, pqZ⟩, ?_⟩
          refine WM_val rfl rfl rfl rfl (R_assign rfl rfl) ?_
          refine WM_nil ?_
          refine WQ_code ?_
          refine WC_seq ?_
          refine WC_seq ?_
          refine WC_region ?_
          refine WL_val rfl rfl rfl (R_move rfl rfl) ?_
          refine WL_val rfl rfl rfl (R_move rfl rfl) ?_
          refine WL_val rfl rfl rfl (R_load rfl sc23 rfl (mmZ) rfl) ?_
          refine WL_val rfl rfl rfl (R_nilCheck rfl rfl) ?_
          refine WL_val rfl rfl rfl (R_fieldAddr rfl fa71_4 rfl) ?_
          refine WL_val rfl rfl rfl (R_sliceArr rfl Try.underlying67 Try.sizeOf66 rfl) ?_
          refine WL_val rfl rfl rfl (R_makeFunc rfl rfl rfl) ?_
          refine WL_do rfl rfl rfl (D_call (ccon_ok h b2 who) rfl rfl rfl rfl (pqZ)) ?_
          rintro _ _ ⟨_, ⟨rfl, rfl⟩, rfl⟩
          refine WL_val rfl rfl rfl (R_pickF rfl rfl rfl) ?_
          refine WL_nil ?_
          refine WQ_code ?_
          refine WC_if rfl (fun c4 => ?_) (fun c4 => ?_)
          · have hdl := c4
            refine WC_seq ?_
            refine WC_region ?_
            refine WL_val rfl rfl rfl (R_build rfl zv44 pl44 rfl rfl) ?_
            refine WL_do0 rfl rfl (D_store (vs := [_, _, _]) rfl Try.sizeOf44 rfl rfl rfl rfl rfl (plZ) (by exact Nat.le_of_ble_eq_true rfl)) ?_
            rintro _ _ rfl
            refine WL_val rfl rfl rfl (R_assign rfl rfl) ?_
            refine WL_nil ?_
            refine WQ_code ?_
            refine WC_ret ?_
            refine WQ_ret rfl rfl (.cons (.cell (vs := [_, _, _]) rfl ag44 (mmZ) rfl (atZ)) (.cons (.tmp rfl) .nil)) rfl (by
                have he := getE_busy hm hd (.inr hdl)
                have hg9 := get_err (by rw [he]; decide)
                exact ⟨m, by rw [hg9.2, he]; rfl, by rw [hg9.1], rfl, by rw [hg9.1]; exact h⟩) (pqZ)
          · have hdl := c4
            refine WC_skip ?_
            refine WQ_code ?_
            refine WC_seq ?_
            refine WC_seq ?_
            refine WC_region ?_
            refine WL_val rfl rfl rfl (R_load rfl sc23 rfl (mmZ) rfl) ?_
            refine WL_do rfl rfl rfl (D_call (pfull_ok h hE) rfl rfl rfl rfl (pqZ)) ?_
            rintro _ _ ⟨_, ⟨rfl, rfl⟩, rfl⟩
            refine WL_val rfl rfl rfl (R_assign rfl rfl) ?_
            refine WL_nil ?_
            refine WQ_code ?_
            refine WC_seq ?_
            refine WC_region ?_
            refine WL_val rfl rfl rfl (R_move rfl rfl) ?_
            refine WL_val rfl rfl rfl (R_neq rfl rfl rfl) ?_
            refine WL_nil ?_
            refine WQ_code ?_
            refine WC_dF rfl (by simp) ?_
            refine WC_skip ?_
            refine WQ_code ?_
            refine WC_seq ?_
            refine WC_region ?_
            refine WL_val rfl rfl rfl (R_load rfl sc23 rfl (mmZ) rfl) ?_
            refine WL_val rfl rfl rfl (R_move rfl rfl) ?_
            refine WL_val rfl rfl rfl (R_nilCheck rfl rfl) ?_
            refine WL_val rfl rfl rfl (R_fieldAddr rfl fa71_3 rfl) ?_
            refine WL_do0 rfl rfl (D_store (vs := [_]) rfl Try.sizeOf28 rfl rfl rfl rfl rfl (plZ) (by exact pc_nowr m s)) ?_
            rintro _ _ rfl
            rw [pc_now]
            have h0 := h.canc _ hm hb
            refine WL_nil ?_
            refine WQ_code ?_
            refine WC_seq ?_
            refine WC_seq ?_
            refine WC_region ?_
            refine WL_val rfl rfl rfl (R_load rfl sc23 rfl (mmZ) rfl) ?_
            refine WL_do rfl rfl rfl (D_call (pall_ok h0 3) rfl rfl rfl rfl (pqZ)) ?_
            rintro _ _ ⟨_, ⟨o9, c9, tl9, rfl, own9, rfl⟩, rfl⟩
            refine WL_val rfl rfl rfl (R_assign rfl rfl) ?_
            refine WL_nil ?_
            refine WQ_code ?_
            refine WC_seq ?_
            refine WC_region ?_
            refine WL_val rfl rfl rfl (R_move rfl rfl) ?_
            refine WL_val rfl rfl rfl (R_len rfl Try.underlying78 rfl) ?_
            refine WL_val rfl rfl rfl (R_gtr rfl rfl rfl) ?_
            refine WL_nil ?_
            refine WQ_code ?_
            refine WC_dec rfl (fun c5 => ?_) (fun c5 => ?_)
            · have hl := c5
              refine WC_seq ?_
              refine WC_region ?_
              have hne : allI 3 s.C ≠ [] := fun e => by have h9 : ((allI 3 s.C).length : Int) > 0 := hl; rw [e] at h9; simp at h9
              obtain ⟨kl, xl, hkl, hxl, hkl2, _⟩ := last_mem hne
              rw [h.cl] at hkl2
              refine WL_val rfl rfl rfl (R_move rfl rfl) ?_
              refine WL_val rfl rfl rfl (R_makeFunc rfl rfl rfl) ?_
              refine WL_do rfl rfl rfl (D_call (maxf_ok (allI 3 s.C) o9 c9 tl9 own9 38 [.pointer (some ⟨b1, 0, none⟩)] [⟨some b1, cl [ptrP m.p] 23⟩, poP m (s.at_ now)] (idleC s.C) (fun a ha b hb => pget2_ok h0 b1 a b ha hb) (by show 1 ≤ (allI 3 s.C).length; exact List.length_pos_iff.2 hne) (by show (allI 3 s.C).length ≤ _; omega)) rfl rfl rfl rfl (pqZ)) ?_
              rintro _ _ ⟨_, ⟨rfl, rfl⟩, rfl⟩
              refine WL_val rfl rfl rfl (R_assign rfl rfl) ?_
              refine WL_nil ?_
              refine WQ_code ?_
              refine WC_seq ?_
              refine WC_region ?_
              refine WL_val rfl rfl rfl (R_load rfl sc23 rfl (mmZ) rfl) ?_
              refine WL_val rfl rfl rfl (R_move rfl rfl) ?_
              refine WL_val rfl rfl rfl (R_build rfl zv66 pl66 rfl rfl) ?_
              refine WL_val rfl rfl rfl (R_nilCheck rfl rfl) ?_
              refine WL_val rfl rfl rfl (R_fieldAddr rfl fa71_4 rfl) ?_
              refine WL_val rfl rfl rfl (R_indexAddrA rfl Try.underlying67 Try.sizeOf66 rfl rfl (by exact ⟨by show 0 ≤ s.last; omega, by show s.last < 64; omega⟩)) ?_
              refine WL_do0 rfl rfl (D_store (vs := [_, _, _]) rfl Try.sizeOf66 rfl rfl rfl rfl rfl (plZ) (by exact pc_room h.cl rfl (i := s.last.toNat) (by omega))) ?_
              rintro _ _ rfl
              rw [show putAt _ _ [.int .i64 (2), .int .i64 (0), .int .u64 (0)] = _ from pc_put (A := pcH _) rfl (y := ⟨2, 0, 0⟩) (show (s.at_ now).C[s.last.toNat]? = some xl from hxl) rfl]
              refine WL_nil ?_
              refine WQ_code ?_
              refine WC_seq ?_
              refine WC_region ?_
              refine WL_val rfl rfl rfl (R_load rfl sc3 rfl (mmZ) rfl) ?_
              refine WL_val rfl rfl rfl (R_move rfl rfl) ?_
              refine WL_val rfl rfl rfl (R_build rfl zv44 pl44 rfl rfl) ?_
              refine WL_do0 rfl rfl (D_store (vs := [_, _, _]) rfl Try.sizeOf44 rfl rfl rfl rfl rfl (plZ) (by exact Nat.le_of_ble_eq_true rfl)) ?_
              rintro _ _ rfl
              refine WL_val rfl rfl rfl (R_assign rfl rfl) ?_
              refine WL_nil ?_
              refine WQ_code ?_
              refine WC_ret ?_
              refine WQ_ret rfl rfl (.cons (.cell (vs := [_, _, _]) rfl ag44 (mmZ) rfl (atZ)) (.cons (.tmp rfl) .nil)) rfl (by
                  have he := getE_ok hm hd hw hdl
                  have hg9 := get_use he hne
                  exact ⟨m, by rw [hg9.2, he]; rfl, by rw [hg9.1], rfl, by rw [hg9.1]; exact h0.set (Nat.zero_le _) (⟨by decide, by decide⟩ : (0 : Int) ≤ 2 ∧ (2 : Int) ≤ 3)⟩) (pqZ)
            · have hni : allI 3 s.C = [] := List.eq_nil_of_length_eq_zero (by have h9 : ¬ ((allI 3 s.C).length : Int) > 0 := c5; omega)
              refine WC_skip ?_
              refine WQ_code ?_
              refine WC_seq ?_
              refine WC_seq ?_
              refine WC_region ?_
              refine WL_val rfl rfl rfl (R_load rfl sc23 rfl (mmZ) rfl) ?_
              refine WL_do rfl rfl rfl (D_call (proom_ok h0) rfl rfl rfl rfl (pqZ)) ?_
              rintro _ _ ⟨_, ⟨rfl, rfl⟩, rfl⟩
              refine WL_nil ?_
              refine WQ_code ?_
              refine WC_if rfl (fun c6 => ?_) (fun c6 => ?_)
              · have hr : s.room = true := c6
                refine WC_seq ?_
                refine WC_draw ([⟨some b1, cl [ptrP m.p] 23⟩, ⟨some b2, cl [.int .i64 who] 3⟩]) [(0, true), (1, true), (2, true), (3, false), (4, true), (5, false), (6, true)] followsMixed rfl rfl (by kernel_rfl) pqZ ?_
                refine WM_val rfl rfl rfl rfl (R_load rfl sc3 rfl (mmZ) rfl) ?_
                refine WM_val rfl rfl rfl rfl (R_load rfl sc23 rfl (mmZ) rfl) ?_
                refine WM_val rfl rfl rfl rfl (R_load rfl sc3 rfl (mmZ) rfl) ?_
                refine WM_do rfl rfl rfl rfl (D_call (pdial_ok h0 who (PS.room_ne (s := s) hr h.cl h.op.2)) rfl rfl rfl rfl (pqZ)) ?_
                rintro _ _ ⟨_, ⟨rfl, rfl⟩, rfl⟩
                refine ⟨⟨_, pqZ⟩, ?_⟩
                refine WM_val rfl rfl rfl rfl (R_build rfl zv44 pl44 rfl rfl) ?_
                refine WM_do0 rfl rfl rfl (D_store (vs := [_, _, _]) rfl Try.sizeOf44 rfl rfl rfl rfl rfl (plZ) (by exact Nat.le_of_ble_eq_true rfl)) ?_
                rintro _ _ rfl
                refine ⟨⟨_, pqZ⟩, ?_⟩
                refine WM_val rfl rfl rfl rfl (R_assign rfl rfl) ?_
                refine WM_nil ?_
                refine WQ_code ?_
                refine WC_ret ?_
                refine WQ_ret rfl rfl (.cons (.cell (vs := [_, _, _]) rfl ag44 (mmZ) rfl (atZ)) (.cons (.tmp rfl) .nil)) rfl (by
                    have he := getE_ok hm hd hw hdl
                    have hg9 := get_dial he hni hr
                    exact ⟨m, by rw [hg9.2, he]; rfl, by rw [hg9.1], rfl, by rw [hg9.1]; exact h0.dial who⟩) (pqZ)
              · have hr : s.room = false := c6
                refine WC_skip ?_
                refine WQ_code ?_
                refine WC_seq ?_
                refine WC_draw ([⟨some b1, cl [ptrP m.p] 23⟩, ⟨some b2, cl [.int .i64 who] 3⟩, poP m (s.at_ now)]) [(0, true), (1, true), (2, true), (3, true), (4, true), (5, false), (6, true), (7, true), (8, true), (9, true), (10, true)] followsMixed rfl rfl (by kernel_rfl) pqZ ?_
                refine WM_val rfl rfl rfl rfl (R_load rfl sc23 rfl (mmZ) rfl) ?_
                refine WM_val rfl rfl rfl rfl (R_nilCheck rfl rfl) ?_
                refine WM_val rfl rfl rfl rfl (R_fieldAddr rfl fa71_5 rfl) ?_
                refine WM_val rfl rfl rfl rfl (R_load (v := ptrQ m.q) rfl sc68 rfl (mmZ) (pc_t h.cl rfl 0)) ?_
                refine WM_val rfl rfl rfl rfl (R_load rfl sc3 rfl (mmZ) rfl) ?_
                refine WM_do rfl rfl rfl rfl (D_call (qpush_ok m.q m.qm (fq s.Q) s.n m.qes m.qmc h.qk h.qM (by rw [List.length_map]; omega) hn who) rfl rfl rfl rfl (pqZ)) ?_
                rintro _ _ ⟨_, ⟨es1, mc1, rfl, rfl, hM1⟩, rfl⟩
                refine ⟨⟨_, pqZ⟩, ?_⟩
                rw [← fq_app s.Q ⟨s.n + 1, who, dl⟩] at hM1 ⊢
                refine WM_val rfl rfl rfl rfl (R_move rfl rfl) ?_
                refine WM_val rfl rfl rfl rfl (R_extract rfl rfl rfl) ?_
                refine WM_val rfl rfl rfl rfl (R_extract rfl rfl rfl) ?_
                refine WM_val rfl rfl rfl rfl (R_assign rfl rfl) ?_
                refine WM_val rfl rfl rfl rfl (R_assign rfl rfl) ?_
                refine WM_nil ?_
                refine WQ_code ?_
                refine WC_seq ?_
                refine WC_draw ([⟨some b1, cl [ptrP m.p] 23⟩, ⟨some b2, cl [.int .i64 who] 3⟩, poP m (s.at_ now)]) [(0, true), (1, true), (2, true), (3, true), (4, true), (5, true), (6, true), (7, true), (8, false)] followsMixed rfl rfl (by kernel_rfl) pqZ ?_
                refine WM_val rfl rfl rfl rfl (R_load rfl sc23 rfl (mmZ) rfl) ?_
                refine WM_val rfl rfl rfl rfl (R_nilCheck rfl rfl) ?_
                refine WM_val rfl rfl rfl rfl (R_fieldAddr rfl fa71_6 rfl) ?_
                refine WM_val rfl rfl rfl rfl (R_load (v := .map (some m.wm)) rfl sc69 rfl (mmZ) (pc_t h.cl rfl 1)) ?_
                refine WM_val rfl rfl rfl rfl (R_load rfl sc3 rfl (mmZ) rfl) ?_
                refine WM_val rfl rfl rfl rfl (R_move rfl rfl) ?_
                refine WM_val rfl rfl rfl rfl (R_move rfl rfl) ?_
                refine WM_val rfl rfl rfl rfl (R_build rfl zv86 pl86 rfl rfl) ?_
                refine WM_do0 rfl rfl rfl (D_mapAddK (k := who) (v := (s.n + 1, dl)) rfl Try.underlying69 int_key rfl rfl rfl plZ h.wM hno) ?_
                rintro _ _ ⟨es9, hM9, rfl⟩
                refine ⟨⟨_, pqZ⟩, ?_⟩
                refine WM_nil ?_
                refine WQ_code ?_
                refine WC_seq ?_
                refine WC_region ?_
                refine WL_val rfl rfl rfl (R_load rfl sc3 rfl (mmZ) rfl) ?_
                refine WL_val rfl rfl rfl (R_build rfl zv44 pl44 rfl rfl) ?_
                refine WL_do0 rfl rfl (D_store (vs := [_, _, _]) rfl Try.sizeOf44 rfl rfl rfl rfl rfl (plZ) (by exact Nat.le_of_ble_eq_true rfl)) ?_
                rintro _ _ rfl
                refine WL_val rfl rfl rfl (R_assign rfl rfl) ?_
                refine WL_nil ?_
                refine WQ_code ?_
                refine WC_ret ?_
                refine WQ_ret rfl rfl (.cons (.cell (vs := [_, _, _]) rfl ag44 (mmZ) rfl (atZ)) (.cons (.tmp rfl) .nil)) rfl (by
                    have he := getE_ok hm hd hw hdl
                    have hg9 := get_wait he hni hr
                    exact ⟨{ m with qes := es1, qmc := mc1, wes := es9, wmc := m.wmc + 1 }, by rw [hg9.2, he]; rfl, by rw [hg9.1], rfl, by rw [hg9.1]; exact h0.push (of_decide_eq_true (may_zero hm).1) hM1 hM9⟩) (pqZ)
  · have hg := c1
    refine WL_skip rfl rfl rfl ?_
    refine WL_skip rfl rfl rfl ?_
    refine WL_val rfl rfl rfl (R_pickF rfl rfl rfl) ?_
    refine WL_val rfl rfl rfl (R_move rfl rfl) ?_
    refine WL_set (s := 24) (v := .bool (decide (0 ≤ who ∧ who ≤ 1000))) rfl (by first | exact congrArg Value.bool (decide_eq_decide.2 (by omega)) | exact congrArg Value.bool (decide_eq_false (by omega)).symm) ?_
    refine WL_do rfl rfl rfl (D_call (pmay_ok h (decide (0 ≤ who ∧ who ≤ 1000)) now) rfl rfl rfl rfl (pqZ)) ?_
    rintro _ _ ⟨_, ⟨rfl, rfl⟩, rfl⟩
    refine WL_val rfl rfl rfl (R_assign rfl rfl) ?_
    refine WL_nil ?_
    refine WQ_code ?_
    refine WC_seq ?_
    refine WC_block ?_
    refine WC_seq ?_
    refine WC_region ?_
    refine WL_val rfl rfl rfl (R_move rfl rfl) ?_
    refine WL_val rfl rfl rfl (R_neq rfl rfl rfl) ?_
    refine WL_val rfl rfl rfl (R_assign rfl rfl) ?_
    refine WL_nil ?_
    refine WQ_code ?_
    refine WC_dec rfl (fun c7 => ?_) (fun c7 => ?_)
    · have hm := c7
      refine WC_seq ?_
      refine WC_region ?_
      refine WL_val rfl rfl rfl (R_build rfl zv44 pl44 rfl rfl) ?_
      refine WL_val rfl rfl rfl (R_move rfl rfl) ?_
      refine WL_do0 rfl rfl (D_store (vs := [_, _, _]) rfl Try.sizeOf44 rfl rfl rfl rfl rfl (plZ) (by exact Nat.le_of_ble_eq_true rfl)) ?_
      rintro _ _ rfl
      refine WL_val rfl rfl rfl (R_assign rfl rfl) ?_
      refine WL_nil ?_
      refine WQ_code ?_
      refine WC_ret ?_
      refine WQ_ret rfl rfl (.cons (.cell (vs := [_, _, _]) rfl ag44 (mmZ) rfl (atZ)) (.cons (.tmp rfl) .nil)) rfl (by
          have he : getE_ s who now dl = _ := getE_may hm
          have hg9 := get_err (s := s) (who := who) (now := now) (dl := dl) (by rw [he]; exact hm)
          exact ⟨m, by rw [hg9.2, he]; rfl, by rw [hg9.1], rfl, by rw [hg9.1]; exact h⟩) (pqZ)
    · have hm : s.may (decide (0 ≤ who ∧ who ≤ 1000)) now = 0 := Decidable.byContradiction c7
      refine WC_seq ?_
      refine WC_region ?_
      refine WL_val rfl rfl rfl (R_move rfl rfl) ?_
      refine WL_val rfl rfl rfl (R_move rfl rfl) ?_
      refine WL_val rfl rfl rfl (R_leq rfl rfl rfl) ?_
      refine WL_val rfl rfl rfl (R_assign rfl rfl) ?_
      refine WL_nil ?_
      refine WQ_code ?_
      refine WC_dec rfl (fun c8 => ?_) (fun c8 => ?_)
      · have hd : dl ≤ now := by omega
        refine WC_seq ?_
        refine WC_region ?_
        refine WL_val rfl rfl rfl (R_build rfl zv44 pl44 rfl rfl) ?_
        refine WL_do0 rfl rfl (D_store (vs := [_, _, _]) rfl Try.sizeOf44 rfl rfl rfl rfl rfl (plZ) (by exact Nat.le_of_ble_eq_true rfl)) ?_
        rintro _ _ rfl
        refine WL_val rfl rfl rfl (R_assign rfl rfl) ?_
        refine WL_nil ?_
        refine WQ_code ?_
        refine WC_ret ?_
        refine WQ_ret rfl rfl (.cons (.cell (vs := [_, _, _]) rfl ag44 (mmZ) rfl (atZ)) (.cons (.tmp rfl) .nil)) rfl (by
            have he : getE_ s who now dl = _ := getE_late hm hd
            have hg9 := get_err (s := s) (who := who) (now := now) (dl := dl) (by rw [he]; decide)
            exact ⟨m, by rw [hg9.2, he]; rfl, by rw [hg9.1], rfl, by rw [hg9.1]; exact h⟩) (pqZ)
      · have hd : ¬ dl ≤ now := by omega
        rcases waits_or s who with ⟨A, x, B, hQ, rfl⟩ | ⟨hw, hno⟩
        · refine WC_skip ?_
          refine WQ_code ?_
          refine WC_seq ?_
          refine WC_draw _ [(0, true), (1, true), (2, true), (3, true), (4, true), (5, true), (6, true), (7, true), (8, true), (9, false), (10, false), (11, true)] followsMixed rfl rfl (by kernel_rfl) .all ?_
          refine WM_val rfl rfl rfl rfl (R_load rfl sc23 rfl (mmZ) rfl) ?_
          refine WM_val rfl rfl rfl rfl (R_nilCheck rfl rfl) ?_
          refine WM_val rfl rfl rfl rfl (R_fieldAddr rfl fa71_6 rfl) ?_
          refine WM_val rfl rfl rfl rfl (R_load (v := .map (some m.wm)) rfl sc69 rfl (mmZ) (pc_t h.cl rfl 1)) ?_
          refine WM_val rfl rfl rfl rfl (R_load rfl sc3 rfl (mmZ) rfl) ?_
          refine WM_val rfl rfl rfl rfl (R_lookKT (k := x.who) (a := (x.t, x.dl)) rfl Try.underlying69 int_key rfl rfl mmZ h.wM (by rw [hQ]; exact List.mem_map_of_mem (List.mem_append_right _ (List.mem_cons_self ..)))) ?_
          refine WM_val rfl rfl rfl rfl (R_move rfl rfl) ?_
          refine WM_val rfl rfl rfl rfl (R_extract rfl rfl rfl) ?_
          refine WM_val rfl rfl rfl rfl (R_extract rfl rfl rfl) ?_
          refine WM_set (s := 45) (v := .bool true) rfl (by rfl) ?_
          refine WM_do rfl rfl rfl rfl (D_alloc rfl zv86) ?_
          rintro _ _ ⟨b6, rfl, rfl⟩
          refine ⟨⟨_, pqZ⟩, ?_⟩
          refine WM_do0 rfl rfl rfl (D_store (vs := [_, _]) rfl Try.sizeOf86 rfl rfl rfl rfl rfl (plZ) (by exact Nat.le_of_ble_eq_true rfl)) ?_
          rintro _ _ rfl
          refine ⟨⟨_, pqZ⟩, ?_⟩
          refine WM_val rfl rfl rfl rfl (R_assign rfl rfl) ?_
          refine WM_nil ?_
          refine WQ_code ?_
          refine WC_seq ?_
          refine WC_seq ?_
          refine WC_region ?_
          refine WL_val rfl rfl rfl (R_move rfl rfl) ?_
          refine WL_val rfl rfl rfl (R_move rfl rfl) ?_
          refine WL_skip rfl rfl rfl ?_
          refine WL_skip rfl rfl rfl ?_
          refine WL_skip rfl rfl rfl ?_
          refine WL_skip rfl rfl rfl ?_
          refine WL_skip rfl rfl rfl ?_
          refine WL_skip rfl rfl rfl ?_
          refine WL_val rfl rfl rfl (R_pickT rfl rfl rfl) ?_
          refine WL_nil ?_
          refine WQ_code ?_
          refine WC_T rfl ?_
          refine WC_seq ?_
          refine WC_region ?_
          refine WL_val rfl rfl rfl (R_build rfl zv44 pl44 rfl rfl) ?_
          refine WL_do0 rfl rfl (D_store (vs := [_, _, _]) rfl Try.sizeOf44 rfl rfl rfl rfl rfl (plZ) (by exact Nat.le_of_ble_eq_true rfl)) ?_
          rintro _ _ rfl
          refine WL_val rfl rfl rfl (R_assign rfl rfl) ?_
          refine WL_nil ?_
          refine WQ_code ?_
          refine WC_ret ?_
          refine WQ_ret rfl rfl (.cons (.cell (vs := [_, _, _]) rfl ag44 (mmZ) rfl (atZ)) (.cons (.tmp rfl) .nil)) rfl (by
              have he := getE_busy hm hd (.inl (waits_in hQ))
              have hg9 := get_err (by rw [he]; decide)
              exact ⟨m, by rw [hg9.2, he]; rfl, by rw [hg9.1], rfl, by rw [hg9.1]; exact h⟩) (pqZ)
        · refine WC_skip ?_
          refine WQ_code ?_
          refine WC_seq ?_
          refine WC_draw _ [(0, true), (1, true), (2, true), (3, true), (4, true), (5, true), (6, true), (7, true), (8, true), (9, false), (10, false), (11, true)] followsMixed rfl rfl (by kernel_rfl) .all ?_
          refine WM_val rfl rfl rfl rfl (R_load rfl sc23 rfl (mmZ) rfl) ?_
          refine WM_val rfl rfl rfl rfl (R_nilCheck rfl rfl) ?_
          refine WM_val rfl rfl rfl rfl (R_fieldAddr rfl fa71_6 rfl) ?_
          refine WM_val rfl rfl rfl rfl (R_load (v := .map (some m.wm)) rfl sc69 rfl (mmZ) (pc_t h.cl rfl 1)) ?_
          refine WM_val rfl rfl rfl rfl (R_load rfl sc3 rfl (mmZ) rfl) ?_
          refine WM_val rfl rfl rfl rfl (R_lookKF (k := who) (zv := .agg #[.int .u64 0, .int .u64 0]) rfl Try.underlying69 int_key rfl rfl mmZ h.wM hno (fun w => Try.zeroValue86 w)) ?_
          refine WM_val rfl rfl rfl rfl (R_move rfl rfl) ?_
          refine WM_val rfl rfl rfl rfl (R_extract rfl rfl rfl) ?_
          refine WM_val rfl rfl rfl rfl (R_extract rfl rfl rfl) ?_
          refine WM_set (s := 45) (v := .bool false) rfl (by rfl) ?_
          refine WM_do rfl rfl rfl rfl (D_alloc rfl zv86) ?_
          rintro _ _ ⟨b7, rfl, rfl⟩
          refine ⟨⟨_, pqZ⟩, ?_⟩
          refine WM_do0 rfl rfl rfl (D_store (vs := [_, _]) rfl Try.sizeOf86 rfl rfl rfl rfl rfl (plZ) (by exact Nat.le_of_ble_eq_true rfl)) ?_
          rintro _ _ rfl
          refine ⟨⟨_, pqZ⟩, ?_⟩
          refine WM_val rfl rfl rfl rfl (R_assign rfl rfl) ?_
          refine WM_nil ?_
          refine WQ_code ?_
          refine WC_seq ?_
          refine WC_seq ?_
          refine WC_region ?_
          refine WL_val rfl rfl rfl (R_move rfl rfl) ?_
          refine WL_val rfl rfl rfl (R_move rfl rfl) ?_
          refine WL_val rfl rfl rfl (R_load rfl sc23 rfl (mmZ) rfl) ?_
          refine WL_val rfl rfl rfl (R_nilCheck rfl rfl) ?_
          refine WL_val rfl rfl rfl (R_fieldAddr rfl fa71_4 rfl) ?_
          refine WL_val rfl rfl rfl (R_sliceArr rfl Try.underlying67 Try.sizeOf66 rfl) ?_
          refine WL_val rfl rfl rfl (R_makeFunc rfl rfl rfl) ?_
          refine WL_do rfl rfl rfl (D_call (ccon_ok h b2 who) rfl rfl rfl rfl (pqZ)) ?_
          rintro _ _ ⟨_, ⟨rfl, rfl⟩, rfl⟩
          refine WL_val rfl rfl rfl (R_pickF rfl rfl rfl) ?_
          refine WL_nil ?_
          refine WQ_code ?_
          refine WC_if rfl (fun c9 => ?_) (fun c9 => ?_)
          · have hdl := c9
            refine WC_seq ?_
            refine WC_region ?_
            refine WL_val rfl rfl rfl (R_build rfl zv44 pl44 rfl rfl) ?_
            refine WL_do0 rfl rfl (D_store (vs := [_, _, _]) rfl Try.sizeOf44 rfl rfl rfl rfl rfl (plZ) (by exact Nat.le_of_ble_eq_true rfl)) ?_
            rintro _ _ rfl
            refine WL_val rfl rfl rfl (R_assign rfl rfl) ?_
            refine WL_nil ?_
            refine WQ_code ?_
            refine WC_ret ?_
            refine WQ_ret rfl rfl (.cons (.cell (vs := [_, _, _]) rfl ag44 (mmZ) rfl (atZ)) (.cons (.tmp rfl) .nil)) rfl (by
                have he := getE_busy hm hd (.inr hdl)
                have hg9 := get_err (by rw [he]; decide)
                exact ⟨m, by rw [hg9.2, he]; rfl, by rw [hg9.1], rfl, by rw [hg9.1]; exact h⟩) (pqZ)
          · have hdl := c9
            refine WC_skip ?_
            refine WQ_code ?_
            refine WC_seq ?_
            refine WC_seq ?_
            refine WC_region ?_
            refine WL_val rfl rfl rfl (R_load rfl sc23 rfl (mmZ) rfl) ?_
            refine WL_do rfl rfl rfl (D_call (pfull_ok h hE) rfl rfl rfl rfl (pqZ)) ?_
            rintro _ _ ⟨_, ⟨rfl, rfl⟩, rfl⟩
            refine WL_val rfl rfl rfl (R_assign rfl rfl) ?_
            refine WL_nil ?_
            refine WQ_code ?_
            refine WC_seq ?_
            refine WC_region ?_
            refine WL_val rfl rfl rfl (R_move rfl rfl) ?_
            refine WL_val rfl rfl rfl (R_neq rfl rfl rfl) ?_
            refine WL_nil ?_
            refine WQ_code ?_
            refine WC_dF rfl (by simp) ?_
            refine WC_skip ?_
            refine WQ_code ?_
            refine WC_seq ?_
            refine WC_region ?_
            refine WL_val rfl rfl rfl (R_load rfl sc23 rfl (mmZ) rfl) ?_
            refine WL_val rfl rfl rfl (R_move rfl rfl) ?_
            refine WL_val rfl rfl rfl (R_nilCheck rfl rfl) ?_
            refine WL_val rfl rfl rfl (R_fieldAddr rfl fa71_3 rfl) ?_
            refine WL_do0 rfl rfl (D_store (vs := [_]) rfl Try.sizeOf28 rfl rfl rfl rfl rfl (plZ) (by exact pc_nowr m s)) ?_
            rintro _ _ rfl
            rw [pc_now]
            have h0 := h.canc _ hm hb
            refine WL_nil ?_
            refine WQ_code ?_
            refine WC_seq ?_
            refine WC_seq ?_
            refine WC_region ?_
            refine WL_val rfl rfl rfl (R_load rfl sc23 rfl (mmZ) rfl) ?_
            refine WL_do rfl rfl rfl (D_call (pall_ok h0 3) rfl rfl rfl rfl (pqZ)) ?_
            rintro _ _ ⟨_, ⟨o9, c9, tl9, rfl, own9, rfl⟩, rfl⟩
            refine WL_val rfl rfl rfl (R_assign rfl rfl) ?_
            refine WL_nil ?_
            refine WQ_code ?_
            refine WC_seq ?_
            refine WC_region ?_
            refine WL_val rfl rfl rfl (R_move rfl rfl) ?_
            refine WL_val rfl rfl rfl (R_len rfl Try.underlying78 rfl) ?_
            refine WL_val rfl rfl rfl (R_gtr rfl rfl rfl) ?_
            refine WL_nil ?_
            refine WQ_code ?_
            refine WC_dec rfl (fun c10 => ?_) (fun c10 => ?_)
            · have hl := c10
              refine WC_seq ?_
              refine WC_region ?_
              have hne : allI 3 s.C ≠ [] := fun e => by have h9 : ((allI 3 s.C).length : Int) > 0 := hl; rw [e] at h9; simp at h9
              obtain ⟨kl, xl, hkl, hxl, hkl2, _⟩ := last_mem hne
              rw [h.cl] at hkl2
              refine WL_val rfl rfl rfl (R_move rfl rfl) ?_
              refine WL_val rfl rfl rfl (R_makeFunc rfl rfl rfl) ?_
              refine WL_do rfl rfl rfl (D_call (maxf_ok (allI 3 s.C) o9 c9 tl9 own9 38 [.pointer (some ⟨b1, 0, none⟩)] [⟨some b1, cl [ptrP m.p] 23⟩, poP m (s.at_ now)] (idleC s.C) (fun a ha b hb => pget2_ok h0 b1 a b ha hb) (by show 1 ≤ (allI 3 s.C).length; exact List.length_pos_iff.2 hne) (by show (allI 3 s.C).length ≤ _; omega)) rfl rfl rfl rfl (pqZ)) ?_
              rintro _ _ ⟨_, ⟨rfl, rfl⟩, rfl⟩
              refine WL_val rfl rfl rfl (R_assign rfl rfl) ?_
              refine WL_nil ?_
              refine WQ_code ?_
              refine WC_seq ?_
              refine WC_region ?_
              refine WL_val rfl rfl rfl (R_load rfl sc23 rfl (mmZ) rfl) ?_
              refine WL_val rfl rfl rfl (R_move rfl rfl) ?_
              refine WL_val rfl rfl rfl (R_build rfl zv66 pl66 rfl rfl) ?_
              refine WL_val rfl rfl rfl (R_nilCheck rfl rfl) ?_
              refine WL_val rfl rfl rfl (R_fieldAddr rfl fa71_4 rfl) ?_
              refine WL_val rfl rfl rfl (R_indexAddrA rfl Try.underlying67 Try.sizeOf66 rfl rfl (by exact ⟨by show 0 ≤ s.last; omega, by show s.last < 64; omega⟩)) ?_
              refine WL_do0 rfl rfl (D_store (vs := [_, _, _]) rfl Try.sizeOf66 rfl rfl rfl rfl rfl (plZ) (by exact pc_room h.cl rfl (i := s.last.toNat) (by omega))) ?_
              rintro _ _ rfl
              rw [show putAt _ _ [.int .i64 (2), .int .i64 (0), .int .u64 (0)] = _ from pc_put (A := pcH _) rfl (y := ⟨2, 0, 0⟩) (show (s.at_ now).C[s.last.toNat]? = some xl from hxl) rfl]
              refine WL_nil ?_
              refine WQ_code ?_
              refine WC_seq ?_
              refine WC_region ?_
              refine WL_val rfl rfl rfl (R_load rfl sc3 rfl (mmZ) rfl) ?_
              refine WL_val rfl rfl rfl (R_move rfl rfl) ?_
              refine WL_val rfl rfl rfl (R_build rfl zv44 pl44 rfl rfl) ?_
              refine WL_do0 rfl rfl (D_store (vs := [_, _, _]) rfl Try.sizeOf44 rfl rfl rfl rfl rfl (plZ) (by exact Nat.le_of_ble_eq_true rfl)) ?_
              rintro _ _ rfl
              refine WL_val rfl rfl rfl (R_assign rfl rfl) ?_
              refine WL_nil ?_
              refine WQ_code ?_
              refine WC_ret ?_
              refine WQ_ret rfl rfl (.cons (.cell (vs := [_, _, _]) rfl ag44 (mmZ) rfl (atZ)) (.cons (.tmp rfl) .nil)) rfl (by
                  have he := getE_ok hm hd hw hdl
                  have hg9 := get_use he hne
                  exact ⟨m, by rw [hg9.2, he]; rfl, by rw [hg9.1], rfl, by rw [hg9.1]; exact h0.set (Nat.zero_le _) (⟨by decide, by decide⟩ : (0 : Int) ≤ 2 ∧ (2 : Int) ≤ 3)⟩) (pqZ)
            · have hni : allI 3 s.C = [] := List.eq_nil_of_length_eq_zero (by have h9 : ¬ ((allI 3 s.C).length : Int) > 0 := c10; omega)
              refine WC_skip ?_
              refine WQ_code ?_
              refine WC_seq ?_
              refine WC_seq ?_
              refine WC_region ?_
              refine WL_val rfl rfl rfl (R_load rfl sc23 rfl (mmZ) rfl) ?_
              refine WL_do rfl rfl rfl (D_call (proom_ok h0) rfl rfl rfl rfl (pqZ)) ?_
              rintro _ _ ⟨_, ⟨rfl, rfl⟩, rfl⟩
              refine WL_nil ?_
              refine WQ_code ?_
              refine WC_if rfl (fun c11 => ?_) (fun c11 => ?_)
              · have hr : s.room = true := c11
                refine WC_seq ?_
                refine WC_draw ([⟨some b1, cl [ptrP m.p] 23⟩, ⟨some b2, cl [.int .i64 who] 3⟩]) [(0, true), (1, true), (2, true), (3, false), (4, true), (5, false), (6, true)] followsMixed rfl rfl (by kernel_rfl) pqZ ?_
                refine WM_val rfl rfl rfl rfl (R_load rfl sc3 rfl (mmZ) rfl) ?_
                refine WM_val rfl rfl rfl rfl (R_load rfl sc23 rfl (mmZ) rfl) ?_
                refine WM_val rfl rfl rfl rfl (R_load rfl sc3 rfl (mmZ) rfl) ?_
                refine WM_do rfl rfl rfl rfl (D_call (pdial_ok h0 who (PS.room_ne (s := s) hr h.cl h.op.2)) rfl rfl rfl rfl (pqZ)) ?_
                rintro _ _ ⟨_, ⟨rfl, rfl⟩, rfl⟩
                refine ⟨⟨_, pqZ⟩, ?_⟩
                refine WM_val rfl rfl rfl rfl (R_build rfl zv44 pl44 rfl rfl) ?_
                refine WM_do0 rfl rfl rfl (D_store (vs := [_, _, _]) rfl Try.sizeOf44 rfl rfl rfl rfl rfl (plZ) (by exact Nat.le_of_ble_eq_true rfl)) ?_
                rintro _ _ rfl
                refine ⟨⟨_, pqZ⟩, ?_⟩
                refine WM_val rfl rfl rfl rfl (R_assign rfl rfl) ?_
                refine WM_nil ?_
                refine WQ_code ?_
                refine WC_ret ?_
                refine WQ_ret rfl rfl (.cons (.cell (vs := [_, _, _]) rfl ag44 (mmZ) rfl (atZ)) (.cons (.tmp rfl) .nil)) rfl (by
                    have he := getE_ok hm hd hw hdl
                    have hg9 := get_dial he hni hr
                    exact ⟨m, by rw [hg9.2, he]; rfl, by rw [hg9.1], rfl, by rw [hg9.1]; exact h0.dial who⟩) (pqZ)
              · have hr : s.room = false := c11
                refine WC_skip ?_
                refine WQ_code ?_
                refine WC_seq ?_
                refine WC_draw ([⟨some b1, cl [ptrP m.p] 23⟩, ⟨some b2, cl [.int .i64 who] 3⟩, poP m (s.at_ now)]) [(0, true), (1, true), (2, true), (3, true), (4, true), (5, false), (6, true), (7, true), (8, true), (9, true), (10, true)] followsMixed rfl rfl (by kernel_rfl) pqZ ?_
                refine WM_val rfl rfl rfl rfl (R_load rfl sc23 rfl (mmZ) rfl) ?_
                refine WM_val rfl rfl rfl rfl (R_nilCheck rfl rfl) ?_
                refine WM_val rfl rfl rfl rfl (R_fieldAddr rfl fa71_5 rfl) ?_
                refine WM_val rfl rfl rfl rfl (R_load (v := ptrQ m.q) rfl sc68 rfl (mmZ) (pc_t h.cl rfl 0)) ?_
                refine WM_val rfl rfl rfl rfl (R_load rfl sc3 rfl (mmZ) rfl) ?_
                refine WM_do rfl rfl rfl rfl (D_call (qpush_ok m.q m.qm (fq s.Q) s.n m.qes m.qmc h.qk h.qM (by rw [List.length_map]; omega) hn who) rfl rfl rfl rfl (pqZ)) ?_
                rintro _ _ ⟨_, ⟨es1, mc1, rfl, rfl, hM1⟩, rfl⟩
                refine ⟨⟨_, pqZ⟩, ?_⟩
                rw [← fq_app s.Q ⟨s.n + 1, who, dl⟩] at hM1 ⊢
                refine WM_val rfl rfl rfl rfl (R_move rfl rfl) ?_
                refine WM_val rfl rfl rfl rfl (R_extract rfl rfl rfl) ?_
                refine WM_val rfl rfl rfl rfl (R_extract rfl rfl rfl) ?_
                refine WM_val rfl rfl rfl rfl (R_assign rfl rfl) ?_
                refine WM_val rfl rfl rfl rfl (R_assign rfl rfl) ?_
                refine WM_nil ?_
                refine WQ_code ?_
                refine WC_seq ?_
                refine WC_draw ([⟨some b1, cl [ptrP m.p] 23⟩, ⟨some b2, cl [.int .i64 who] 3⟩, poP m (s.at_ now)]) [(0, true), (1, true), (2, true), (3, true), (4, true), (5, true), (6, true), (7, true), (8, false)] followsMixed rfl rfl (by kernel_rfl) pqZ ?_
                refine WM_val rfl rfl rfl rfl (R_load rfl sc23 rfl (mmZ) rfl) ?_
                refine WM_val rfl rfl rfl rfl (R_nilCheck rfl rfl) ?_
                refine WM_val rfl rfl rfl rfl (R_fieldAddr rfl fa71_6 rfl) ?_
                refine WM_val rfl rfl rfl rfl (R_load (v := .map (some m.wm)) rfl sc69 rfl (mmZ) (pc_t h.cl rfl 1)) ?_
                refine WM_val rfl rfl rfl rfl (R_load rfl sc3 rfl (mmZ) rfl) ?_
                refine WM_val rfl rfl rfl rfl (R_move rfl rfl) ?_
                refine WM_val rfl rfl rfl rfl (R_move rfl rfl) ?_
                refine WM_val rfl rfl rfl rfl (R_build rfl zv86 pl86 rfl rfl) ?_
                refine WM_do0 rfl rfl rfl (D_mapAddK (k := who) (v := (s.n + 1, dl)) rfl Try.underlying69 int_key rfl rfl rfl plZ h.wM hno) ?_
                rintro _ _ ⟨es9, hM9, rfl⟩
                refine ⟨⟨_, pqZ⟩, ?_⟩
                refine WM_nil ?_
                refine WQ_code ?_
                refine WC_seq ?_
                refine WC_region ?_
                refine WL_val rfl rfl rfl (R_load rfl sc3 rfl (mmZ) rfl) ?_
                refine WL_val rfl rfl rfl (R_build rfl zv44 pl44 rfl rfl) ?_
                refine WL_do0 rfl rfl (D_store (vs := [_, _, _]) rfl Try.sizeOf44 rfl rfl rfl rfl rfl (plZ) (by exact Nat.le_of_ble_eq_true rfl)) ?_
                rintro _ _ rfl
                refine WL_val rfl rfl rfl (R_assign rfl rfl) ?_
                refine WL_nil ?_
                refine WQ_code ?_
                refine WC_ret ?_
                refine WQ_ret rfl rfl (.cons (.cell (vs := [_, _, _]) rfl ag44 (mmZ) rfl (atZ)) (.cons (.tmp rfl) .nil)) rfl (by
                    have he := getE_ok hm hd hw hdl
                    have hg9 := get_wait he hni hr
                    exact ⟨{ m with qes := es1, qmc := mc1, wes := es9, wmc := m.wmc + 1 }, by rw [hg9.2, he]; rfl, by rw [hg9.1], rfl, by rw [hg9.1]; exact h0.push (of_decide_eq_true (may_zero hm).1) hM1 hM9⟩) (pqZ)

end Go.Proofs.Yteofigbgdbpjgaa
