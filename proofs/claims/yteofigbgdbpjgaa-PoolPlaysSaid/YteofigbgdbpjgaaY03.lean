/-
  Chapter 46 (pool), part RefH: contracts of functions that the laws call, each for the heap it names.
-/
import Derived.Test.YteofigbgdbpjgaaY02
import Derived.Test.YteofigbgdbpjgaaRows
section
set_option linter.unusedVariables false
set_option maxRecDepth 20000
set_option maxHeartbeats 4000000
namespace Go.Proofs.Yteofigbgdbpjgaa
theorem pget_ok {m : PM} {s : PS} (h : PIs m s) (hE : s.E.length ≤ 10000) (hn : s.n < 1000000000000) (who : Int) (now dl : Nat) (hb : now ≤ 18446744073709551615) : Spec Try.prog 15 [ptrP m.p, .int .i64 who, .int .u64 (now : Int), .int .u64 (dl : Int)] (poH m s)
    (fun r H' => ∃ m', r = .tuple #[pvV (s.getV who now dl), .int .i64 (getE_ s who now dl)] ∧ H' = poH m' (s.getS who now dl) ∧ m'.p = m.p ∧ PIs m' (s.getS who now dl)) := by
  have hql := h.ql
  have hlen := allI_len 3 s.C
  rw [h.cl] at hlen
  refine Spec.of (E := [(0, ptrP m.p), (1, .int .i64 who), (2, .int .u64 (now : Int)), (3, .int .u64 (dl : Int))]) Try.func15 rfl (by kernel_rfl) Try.ntmps15 rfl rfl (fun w => ?_)
  refine WC_seq ?_
  refine WC_region ?_
  refine WL_do rfl rfl rfl (D_box (cs := [_]) rfl rfl rfl) ?_
  rintro _ _ ⟨b1, rfl, rfl⟩
  refine WL_do rfl rfl rfl (D_box (cs := [_]) rfl rfl rfl) ?_
  rintro _ _ ⟨b2, rfl, rfl⟩
  refine WL_do rfl rfl rfl (D_alloc rfl zv44) ?_
  rintro _ _ ⟨b3, rfl, rfl⟩
  refine WL_val rfl rfl rfl (R_assign rfl rfl) ?_
  refine WL_nil ?_
  refine WQ_code ?_
  refine WC_seq ?_
  refine WC_region ?_
  refine WL_val rfl rfl rfl (R_load rfl sc23 rfl (mmZ) rfl) ?_
  refine WL_val rfl rfl rfl (R_load rfl sc3 rfl (mmZ) rfl) ?_
  refine WL_val rfl rfl rfl (R_geq rfl rfl rfl) ?_
  refine WL_val rfl rfl rfl (R_move rfl rfl) ?_
  refine WL_splitD (s := 21) rfl (fun c1 => ?_) (fun c1 => ?_)
  · have hg := c1
    refine WL_val rfl rfl rfl (R_load rfl sc3 rfl (mmZ) rfl) ?_
    refine WL_val rfl rfl rfl (R_leq rfl rfl rfl) ?_
    refine WL_val rfl rfl rfl (R_pickT rfl rfl rfl) ?_
    refine WL_val rfl rfl rfl (R_move rfl rfl) ?_
    refine WL_set (s := 24) (v := .bool (decide (0 ≤ who ∧ who ≤ 1000))) rfl (by first | exact congrArg Value.bool (decide_eq_decide.2 (by omega)) | exact congrArg Value.bool (decide_eq_false (by omega)).symm) ?_
    refine WL_do rfl rfl rfl (D_call (pmay_ok h (decide (0 ≤ who ∧ who ≤ 1000)) now) rfl rfl rfl rfl (pqZ)) ?_
    rintro _ _ ⟨_, ⟨rfl, rfl⟩, rfl⟩
    refine WL_val rfl rfl rfl (R_assign rfl rfl) ?_
    refine WL_nil ?_
    refine WQ_code ?_
    refine WC_seq ?_
    refine WC_block ?_
    refine WC_seq ?_
    refine WC_region ?_
    refine WL_val rfl rfl rfl (R_move rfl rfl) ?_
    refine WL_val rfl rfl rfl (R_neq rfl rfl rfl) ?_
    refine WL_val rfl rfl rfl (R_assign rfl rfl) ?_
    refine WL_nil ?_
    refine WQ_code ?_
    refine WC_dec rfl (fun c2 => ?_) (fun c2 => ?_)
    · have hm := c2
      refine WC_seq ?_
      refine WC_region ?_
      refine WL_val rfl rfl rfl (R_build rfl zv44 pl44 rfl rfl) ?_
      refine WL_val rfl rfl rfl (R_move rfl rfl) ?_
      refine WL_do0 rfl rfl (D_store (vs := [_, _, _]) rfl Try.sizeOf44 rfl rfl rfl rfl rfl (plZ) (by exact Nat.le_of_ble_eq_true rfl)) ?_
      rintro _ _ rfl
      refine WL_val rfl rfl rfl (R_assign rfl rfl) ?_
      refine WL_nil ?_
      refine WQ_code ?_
      refine WC_ret ?_
      refine WQ_ret rfl rfl (.cons (.cell (vs := [_, _, _]) rfl ag44 (mmZ) rfl (atZ)) (.cons (.tmp rfl) .nil)) rfl (by
          have he : getE_ s who now dl = _ := getE_may hm
          have hg9 := get_err (s := s) (who := who) (now := now) (dl := dl) (by rw [he]; exact hm)
          exact ⟨m, by rw [hg9.2, he]; rfl, by rw [hg9.1], rfl, by rw [hg9.1]; exact h⟩) (pqZ)
    · have hm : s.may (decide (0 ≤ who ∧ who ≤ 1000)) now = 0 := Decidable.byContradiction c2
      refine WC_seq ?_
      refine WC_region ?_
      refine WL_val rfl rfl rfl (R_move rfl rfl) ?_
      refine WL_val rfl rfl rfl (R_move rfl rfl) ?_
      refine WL_val rfl rfl rfl (R_leq rfl rfl rfl) ?_
      refine WL_val rfl rfl rfl (R_assign rfl rfl) ?_
      refine WL_nil ?_
      refine WQ_code ?_
      refine WC_dec rfl (fun c3 => ?_) (fun c3 => ?_)
      · have hd : dl ≤ now := by omega
        refine WC_seq ?_
        refine WC_region ?_
        refine WL_val rfl rfl rfl (R_build rfl zv44 pl44 rfl rfl) ?_
        refine WL_do0 rfl rfl (D_store (vs := [_, _, _]) rfl Try.sizeOf44 rfl rfl rfl rfl rfl (plZ) (by exact Nat.le_of_ble_eq_true rfl)) ?_
        rintro _ _ rfl
        refine WL_val rfl rfl rfl (R_assign rfl rfl) ?_
        refine WL_nil ?_
        refine WQ_code ?_
        refine WC_ret ?_
        refine WQ_ret rfl rfl (.cons (.cell (vs := [_, _, _]) rfl ag44 (mmZ) rfl (atZ)) (.cons (.tmp rfl) .nil)) rfl (by
            have he : getE_ s who now dl = _ := getE_late hm hd
            have hg9 := get_err (s := s) (who := who) (now := now) (dl := dl) (by rw [he]; decide)
            exact ⟨m, by rw [hg9.2, he]; rfl, by rw [hg9.1], rfl, by rw [hg9.1]; exact h⟩) (pqZ)
      · have hd : ¬ dl ≤ now := by omega
        rcases waits_or s who with ⟨A, x, B, hQ, rfl⟩ | ⟨hw, hno⟩
        · refine WC_skip ?_
          refine WQ_code ?_
          refine WC_seq ?_
          refine WC_draw _ [(0, true), (1, true), (2, true), (3, true), (4, true), (5, true), (6, true), (7, true), (8, true), (9, false), (10, false), (11, true)] followsMixed rfl rfl (by kernel_rfl) .all ?_
          refine WM_val rfl rfl rfl rfl (R_load rfl sc23 rfl (mmZ) rfl) ?_
          refine WM_val rfl rfl rfl rfl (R_nilCheck rfl rfl) ?_
          refine WM_val rfl rfl rfl rfl (R_fieldAddr rfl fa71_6 rfl) ?_
          refine WM_val rfl rfl rfl rfl (R_load (v := .map (some m.wm)) rfl sc69 rfl (mmZ) (pc_t h.cl rfl 1)) ?_
          refine WM_val rfl rfl rfl rfl (R_load rfl sc3 rfl (mmZ) rfl) ?_
          refine WM_val rfl rfl rfl rfl (R_lookKT (k := x.who) (a := (x.t, x.dl)) rfl Try.underlying69 int_key rfl rfl mmZ h.wM (by rw [hQ]; exact List.mem_map_of_mem (List.mem_append_right _ (List.mem_cons_self ..)))) ?_
          refine WM_val rfl rfl rfl rfl (R_move rfl rfl) ?_
          refine WM_val rfl rfl rfl rfl (R_extract rfl rfl rfl) ?_
          refine WM_val rfl rfl rfl rfl (R_extract rfl rfl rfl) ?_
          refine WM_set (s := 45) (v := .bool true) rfl (by rfl) ?_
          refine WM_do rfl rfl rfl rfl (D_alloc rfl zv86) ?_
          rintro _ _ ⟨b4, rfl, rfl⟩
          refine ⟨⟨_, pqZ⟩, ?_⟩
          refine WM_do0 rfl rfl rfl (D_store (vs := [_, _]) rfl Try.sizeOf86 rfl rfl rfl rfl rfl (plZ) (by exact Nat.le_of_ble_eq_true rfl)) ?_
          rintro _ _ rfl
          refine ⟨⟨_, pqZ⟩, ?_⟩
          refine WM_val rfl rfl rfl rfl (R_assign rfl rfl) ?_
          refine WM_nil ?_
          refine WQ_code ?_
          refine WC_seq ?_
          refine WC_seq ?_
          refine WC_region ?_
          refine WL_val rfl rfl rfl (R_move rfl rfl) ?_
          refine WL_val rfl rfl rfl (R_move rfl rfl) ?_
          refine WL_skip rfl rfl rfl ?_
          refine WL_skip rfl rfl rfl ?_
          refine WL_skip rfl rfl rfl ?_
          refine WL_skip rfl rfl rfl ?_
          refine WL_skip rfl rfl rfl ?_
          refine WL_skip rfl rfl rfl ?_
          refine WL_val rfl rfl rfl (R_pickT rfl rfl rfl) ?_
          refine WL_nil ?_
          refine WQ_code ?_
          refine WC_T rfl ?_
          refine WC_seq ?_
          refine WC_region ?_
          refine WL_val rfl rfl rfl (R_build rfl zv44 pl44 rfl rfl) ?_
          refine WL_do0 rfl rfl (D_store (vs := [_, _, _]) rfl Try.sizeOf44 rfl rfl rfl rfl rfl (plZ) (by exact Nat.le_of_ble_eq_true rfl)) ?_
          rintro _ _ rfl
          refine WL_val rfl rfl rfl (R_assign rfl rfl) ?_
          refine WL_nil ?_
          refine WQ_code ?_
          refine WC_ret ?_
          refine WQ_ret rfl rfl (.cons (.cell (vs := [_, _, _]) rfl ag44 (mmZ) rfl (atZ)) (.cons (.tmp rfl) .nil)) rfl (by
              have he := getE_busy hm hd (.inl (waits_in hQ))
              have hg9 := get_err (by rw [he]; decide)
              exact ⟨m, by rw [hg9.2, he]; rfl, by rw [hg9.1], rfl, by rw [hg9.1]; exact h⟩) (pqZ)
        · refine WC_skip ?_
          refine WQ_code ?_
          refine WC_seq ?_
          refine WC_draw _ [(0, true), (1, true), (2, true), (3, true), (4, true), (5, true), (6, true), (7, true), (8, true), (9, false), (10, false), (11, true)] followsMixed rfl rfl (by kernel_rfl) .all ?_
          refine WM_val rfl rfl rfl rfl (R_load rfl sc23 rfl (mmZ) rfl) ?_
          refine WM_val rfl rfl rfl rfl (R_nilCheck rfl rfl) ?_
          refine WM_val rfl rfl rfl rfl (R_fieldAddr rfl fa71_6 rfl) ?_
          refine WM_val rfl rfl rfl rfl (R_load (v := .map (some m.wm)) rfl sc69 rfl (mmZ) (pc_t h.cl rfl 1)) ?_
          refine WM_val rfl rfl rfl rfl (R_load rfl sc3 rfl (mmZ) rfl) ?_
          refine WM_val rfl rfl rfl rfl (R_lookKF (k := who) (zv := .agg #[.int .u64 0, .int .u64 0]) rfl Try.underlying69 int_key rfl rfl mmZ h.wM hno (fun w => Try.zeroValue86 w)) ?_
          refine WM_val rfl rfl rfl rfl (R_move rfl rfl) ?_
          refine WM_val rfl rfl rfl rfl (R_extract rfl rfl rfl) ?_
          refine WM_val rfl rfl rfl rfl (R_extract rfl rfl rfl) ?_
          refine WM_set (s := 45) (v := .bool false) rfl (by rfl) ?_
          refine WM_do rfl rfl rfl rfl (D_alloc rfl zv86) ?_
          rintro _ _ ⟨b5, rfl, rfl⟩
          refine ⟨⟨_, pqZ⟩, ?_⟩
          refine WM_do0 rfl rfl rfl (D_store (vs := [_, _]) rfl Try.sizeOf86 rfl rfl rfl rfl rfl (plZ) (by exact Nat.le_of_ble_eq_true rfl)) ?_
          rintro _ _ rfl
          refine ⟨⟨_, pqZ⟩, ?_⟩
          refine WM_val rfl rfl rfl rfl (R_assign rfl rfl) ?_
          refine WM_nil ?_
          refine WQ_code ?_
          refine WC_seq ?_
          refine WC_seq ?_
          refine WC_region ?_
          refine WL_val rfl rfl rfl (R_move rfl rfl) ?_
          refine WL_val rfl rfl rfl (R_move rfl rfl) ?_
          refine WL_val rfl rfl rfl (R_load rfl sc23 rfl (mmZ) rfl) ?_
          refine WL_val rfl rfl rfl (R_nilCheck rfl rfl) ?_
          refine WL_val rfl rfl rfl (R_fieldAddr rfl fa71_4 rfl) ?_
          refine WL_val rfl rfl rfl (R_sliceArr rfl Try.underlying67 Try.sizeOf66 rfl) ?_
          refine WL_val rfl rfl rfl (R_makeFunc rfl rfl rfl) ?_
          refine WL_do rfl rfl rfl (D_call (ccon_ok h b2 who) rfl rfl rfl rfl (pqZ)) ?_
          rintro _ _ ⟨_, ⟨rfl, rfl⟩, rfl⟩
          refine WL_val rfl rfl rfl (R_pickF rfl rfl rfl) ?_
          refine WL_nil ?_
          refine WQ_code ?_
          refine WC_if rfl (fun c4 => ?_) (fun c4 => ?_)
          · have hdl := c4
            refine WC_seq ?_
            refine WC_region ?_
            refine WL_val rfl rfl rfl (R_build rfl zv44 pl44 rfl rfl) ?_
            refine WL_do0 rfl rfl (D_store (vs := [_, _, _]) rfl Try.sizeOf44 rfl rfl rfl rfl rfl (plZ) (by exact Nat.le_of_ble_eq_true rfl)) ?_
            rintro _ _ rfl
            refine WL_val rfl rfl rfl (R_assign rfl rfl) ?_
            refine WL_nil ?_
            refine WQ_code ?_
            refine WC_ret ?_
            refine WQ_ret rfl rfl (.cons (.cell (vs := [_, _, _]) rfl ag44 (mmZ) rfl (atZ)) (.cons (.tmp rfl) .nil)) rfl (by
                have he := getE_busy hm hd (.inr hdl)
                have hg9 := get_err (by rw [he]; decide)
                exact ⟨m, by rw [hg9.2, he]; rfl, by rw [hg9.1], rfl, by rw [hg9.1]; exact h⟩) (pqZ)
          · have hdl := c4
            refine WC_skip ?_
            refine WQ_code ?_
            refine WC_seq ?_
            refine WC_seq ?_
            refine WC_region ?_
            refine WL_val rfl rfl rfl (R_load rfl sc23 rfl (mmZ) rfl) ?_
            refine WL_do rfl rfl rfl (D_call (pfull_ok h hE) rfl rfl rfl rfl (pqZ)) ?_
            rintro _ _ ⟨_, ⟨rfl, rfl⟩, rfl⟩
            refine WL_val rfl rfl rfl (R_assign rfl rfl) ?_
            refine WL_nil ?_
            refine WQ_code ?_
            refine WC_seq ?_
            refine WC_region ?_
            refine WL_val rfl rfl rfl (R_move rfl rfl) ?_
            refine WL_val rfl rfl rfl (R_neq rfl rfl rfl) ?_
            refine WL_nil ?_
            refine WQ_code ?_
            refine WC_dF rfl (by simp) ?_
            refine WC_skip ?_
            refine WQ_code ?_
            refine WC_seq ?_
            refine WC_region ?_
            refine WL_val rfl rfl rfl (R_load rfl sc23 rfl (mmZ) rfl) ?_
            refine WL_val rfl rfl rfl (R_move rfl rfl) ?_
            refine WL_val rfl rfl rfl (R_nilCheck rfl rfl) ?_
            refine WL_val rfl rfl rfl (R_fieldAddr rfl fa71_3 rfl) ?_
            refine WL_do0 rfl rfl (D_store (vs := [_]) rfl Try.sizeOf28 rfl rfl rfl rfl rfl (plZ) (by exact pc_nowr m s)) ?_
            rintro _ _ rfl
            rw [pc_now]
            have h0 := h.canc _ hm hb
            refine WL_nil ?_
            refine WQ_code ?_
            refine WC_seq ?_
            refine WC_seq ?_
            refine WC_region ?_
            refine WL_val rfl rfl rfl (R_load rfl sc23 rfl (mmZ) rfl) ?_
            refine WL_do rfl rfl rfl (D_call (pall_ok h0 3) rfl rfl rfl rfl (pqZ)) ?_
            rintro _ _ ⟨_, ⟨o9, c9, tl9, rfl, own9, rfl⟩, rfl⟩
            refine WL_val rfl rfl rfl (R_assign rfl rfl) ?_
            refine WL_nil ?_
            refine WQ_code ?_
            refine WC_seq ?_
            refine WC_region ?_
            refine WL_val rfl rfl rfl (R_move rfl rfl) ?_
            refine WL_val rfl rfl rfl (R_len rfl Try.underlying78 rfl) ?_
            refine WL_val rfl rfl rfl (R_gtr rfl rfl rfl) ?_
            refine WL_nil ?_
            refine WQ_code ?_
            refine WC_dec rfl (fun c5 => ?_) (fun c5 => ?_)
            · have hl := c5
              refine WC_seq ?_
              refine WC_region ?_
              have hne : allI 3 s.C ≠ [] := fun e => by have h9 : ((allI 3 s.C).length : Int) > 0 := hl; rw [e] at h9; simp at h9
              obtain ⟨kl, xl, hkl, hxl, hkl2, _⟩ := last_mem hne
              rw [h.cl] at hkl2
              refine WL_val rfl rfl rfl (R_move rfl rfl) ?_
              refine WL_val rfl rfl rfl (R_makeFunc rfl rfl rfl) ?_
              refine WL_do rfl rfl rfl (D_call (maxf_ok (allI 3 s.C) o9 c9 tl9 own9 38 [.pointer (some ⟨b1, 0, none⟩)] [⟨some b1, cl [ptrP m.p] 23⟩, poP m (s.at_ now)] (idleC s.C) (fun a ha b hb => pget2_ok h0 b1 a b ha hb) (by show 1 ≤ (allI 3 s.C).length; exact List.length_pos_iff.2 hne) (by show (allI 3 s.C).length ≤ _; omega)) rfl rfl rfl rfl (pqZ)) ?_
              rintro _ _ ⟨_, ⟨rfl, rfl⟩, rfl⟩
              refine WL_val rfl rfl rfl (R_assign rfl rfl) ?_
              refine WL_nil ?_
              refine WQ_code ?_
              refine WC_seq ?_
              refine WC_region ?_
              refine WL_val rfl rfl rfl (R_load rfl sc23 rfl (mmZ) rfl) ?_
              refine WL_val rfl rfl rfl (R_move rfl rfl) ?_
              refine WL_val rfl rfl rfl (R_build rfl zv66 pl66 rfl rfl) ?_
              refine WL_val rfl rfl rfl (R_nilCheck rfl rfl) ?_
              refine WL_val rfl rfl rfl (R_fieldAddr rfl fa71_4 rfl) ?_
              refine WL_val rfl rfl rfl (R_indexAddrA rfl Try.underlying67 Try.sizeOf66 rfl rfl (by exact ⟨by show 0 ≤ s.last; omega, by show s.last < 64; omega⟩)) ?_
              refine WL_do0 rfl rfl (D_store (vs := [_, _, _]) rfl Try.sizeOf66 rfl rfl rfl rfl rfl (plZ) (by exact pc_room h.cl rfl (i := s.last.toNat) (by omega))) ?_
              rintro _ _ rfl
              rw [show putAt _ _ [.int .i64 (2), .int .i64 (0), .int .u64 (0)] = _ from pc_put (A := pcH _) rfl (y := ⟨2, 0, 0⟩) (show (s.at_ now).C[s.last.toNat]? = some xl from hxl) rfl]
              refine WL_nil ?_
              refine WQ_code ?_
              refine WC_seq ?_
              refine WC_region ?_
              refine WL_val rfl rfl rfl (R_load rfl sc3 rfl (mmZ) rfl) ?_
              refine WL_val rfl rfl rfl (R_move rfl rfl) ?_
              refine WL_val rfl rfl rfl (R_build rfl zv44 pl44 rfl rfl) ?_
              refine WL_do0 rfl rfl (D_store (vs := [_, _, _]) rfl Try.sizeOf44 rfl rfl rfl rfl rfl (plZ) (by exact Nat.le_of_ble_eq_true rfl)) ?_
              rintro _ _ rfl
              refine WL_val rfl rfl rfl (R_assign rfl rfl) ?_
              refine WL_nil ?_
              refine WQ_code ?_
              refine WC_ret ?_
              refine WQ_ret rfl rfl (.cons (.cell (vs := [_, _, _]) rfl ag44 (mmZ) rfl (atZ)) (.cons (.tmp rfl) .nil)) rfl (by
                  have he := getE_ok hm hd hw hdl
                  have hg9 := get_use he hne
                  exact ⟨m, by rw [hg9.2, he]; rfl, by rw [hg9.1], rfl, by rw [hg9.1]; exact h0.set (Nat.zero_le _) (⟨by decide, by decide⟩ : (0 : Int) ≤ 2 ∧ (2 : Int) ≤ 3)⟩) (pqZ)
            · have hni : allI 3 s.C = [] := List.eq_nil_of_length_eq_zero (by have h9 : ¬ ((allI 3 s.C).length : Int) > 0 := c5; omega)
              refine WC_skip ?_
              refine WQ_code ?_
              refine WC_seq ?_
              refine WC_seq ?_
              refine WC_region ?_
              refine WL_val rfl rfl rfl (R_load rfl sc23 rfl (mmZ) rfl) ?_
              refine WL_do rfl rfl rfl (D_call (proom_ok h0) rfl rfl rfl rfl (pqZ)) ?_
              rintro _ _ ⟨_, ⟨rfl, rfl⟩, rfl⟩
              refine WL_nil ?_
              refine WQ_code ?_
              refine WC_if rfl (fun c6 => ?_) (fun c6 => ?_)
              · have hr : s.room = true := c6
                refine WC_seq ?_
                refine WC_draw ([⟨some b1, cl [ptrP m.p] 23⟩, ⟨some b2, cl [.int .i64 who] 3⟩]) [(0, true), (1, true), (2, true), (3, false), (4, true), (5, false), (6, true)] followsMixed rfl rfl (by kernel_rfl) pqZ ?_
                refine WM_val rfl rfl rfl rfl (R_load rfl sc3 rfl (mmZ) rfl) ?_
                refine WM_val rfl rfl rfl rfl (R_load rfl sc23 rfl (mmZ) rfl) ?_
                refine WM_val rfl rfl rfl rfl (R_load rfl sc3 rfl (mmZ) rfl) ?_
                refine WM_do rfl rfl rfl rfl (D_call (pdial_ok h0 who (PS.room_ne (s := s) hr h.cl h.op.2)) rfl rfl rfl rfl (pqZ)) ?_
                rintro _ _ ⟨_, ⟨rfl, rfl⟩, rfl⟩
                refine ⟨⟨_, pqZ⟩, ?_⟩
                refine WM_val rfl rfl rfl rfl (R_build rfl zv44 pl44 rfl rfl) ?_
                refine WM_do0 rfl rfl rfl (D_store (vs := [_, _, _]) rfl Try.sizeOf44 rfl rfl rfl rfl rfl (plZ) (by exact Nat.le_of_ble_eq_true rfl)) ?_
                rintro _ _ rfl
                refine ⟨⟨_, pqZ⟩, ?_⟩
                refine WM_val rfl rfl rfl rfl (R_assign rfl rfl) ?_
                refine WM_nil ?_
                refine WQ_code ?_
                refine WC_ret ?_
                refine WQ_ret rfl rfl (.cons (.cell (vs := [_, _, _]) rfl ag44 (mmZ) rfl (atZ)) (.cons (.tmp rfl) .nil)) rfl (by
                    have he := getE_ok hm hd hw hdl
                    have hg9 := get_dial he hni hr
                    exact ⟨m, by rw [hg9.2, he]; rfl, by rw [hg9.1], rfl, by rw [hg9.1]; exact h0.dial who⟩) (pqZ)
              · have hr : s.room = false := c6
                refine WC_skip ?_
                refine WQ_code ?_
                refine WC_seq ?_
                refine WC_draw ([⟨some b1, cl [ptrP m.p] 23⟩, ⟨some b2, cl [.int .i64 who] 3⟩, poP m (s.at_ now)]) [(0, true), (1, true), (2, true), (3, true), (4, true), (5, false), (6, true), (7, true), (8, true), (9, true), (10, true)] followsMixed rfl rfl (by kernel_rfl) pqZ ?_
                refine WM_val rfl rfl rfl rfl (R_load rfl sc23 rfl (mmZ) rfl) ?_
                refine WM_val rfl rfl rfl rfl (R_nilCheck rfl rfl) ?_
                refine WM_val rfl rfl rfl rfl (R_fieldAddr rfl fa71_5 rfl) ?_
                refine WM_val rfl rfl rfl rfl (R_load (v := ptrQ m.q) rfl sc68 rfl (mmZ) (pc_t h.cl rfl 0)) ?_
                refine WM_val rfl rfl rfl rfl (R_load rfl sc3 rfl (mmZ) rfl) ?_
                refine WM_do rfl rfl rfl rfl (D_call (qpush_ok m.q m.qm (fq s.Q) s.n m.qes m.qmc h.qk h.qM (by rw [List.length_map]; omega) hn who) rfl rfl rfl rfl (pqZ)) ?_
                rintro _ _ ⟨_, ⟨es1, mc1, rfl, rfl, hM1⟩, rfl⟩
                refine ⟨⟨_, pqZ⟩, ?_⟩
                rw [← fq_app s.Q ⟨s.n + 1, who, dl⟩] at hM1 ⊢
                refine WM_val rfl rfl rfl rfl (R_move rfl rfl) ?_
                refine WM_val rfl rfl rfl rfl (R_extract rfl rfl rfl) ?_
                refine WM_val rfl rfl rfl rfl (R_extract rfl rfl rfl) ?_
                refine WM_val rfl rfl rfl rfl (R_assign rfl rfl) ?_
                refine WM_val rfl rfl rfl rfl (R_assign rfl rfl) ?_
                refine WM_nil ?_
                refine WQ_code ?_
                refine WC_seq ?_
                refine WC_draw ([⟨some b1, cl [ptrP m.p] 23⟩, ⟨some b2, cl [.int .i64 who] 3⟩, poP m (s.at_ now)]) [(0, true), (1, true), (2, true), (3, true), (4, true), (5, true), (6, true), (7, true), (8, false)] followsMixed rfl rfl (by kernel_rfl) pqZ ?_
                refine WM_val rfl rfl rfl rfl (R_load rfl sc23 rfl (mmZ) rfl) ?_
                refine WM_val rfl rfl rfl rfl (R_nilCheck rfl rfl) ?_
                refine WM_val rfl rfl rfl rfl (R_fieldAddr rfl fa71_6 rfl) ?_
                refine WM_val rfl rfl rfl rfl (R_load (v := .map (some m.wm)) rfl sc69 rfl (mmZ) (pc_t h.cl rfl 1)) ?_
                refine WM_val rfl rfl rfl rfl (R_load rfl sc3 rfl (mmZ) rfl) ?_
                refine WM_val rfl rfl rfl rfl (R_move rfl rfl) ?_
                refine WM_val rfl rfl rfl rfl (R_move rfl rfl) ?_
                refine WM_val rfl rfl rfl rfl (R_build rfl zv86 pl86 rfl rfl) ?_
                refine WM_do0 rfl rfl rfl (D_mapAddK (k := who) (v := (s.n + 1, dl)) rfl Try.underlying69 int_key rfl rfl rfl plZ h.wM hno) ?_
                rintro _ _ ⟨es9, hM9, rfl⟩
                refine ⟨⟨_, pqZ⟩, ?_⟩
                refine WM_nil ?_
                refine WQ_code ?_
                refine WC_seq ?_
                refine WC_region ?_
                refine WL_val rfl rfl rfl (R_load rfl sc3 rfl (mmZ) rfl) ?_
                refine WL_val rfl rfl rfl (R_build rfl zv44 pl44 rfl rfl) ?_
                refine WL_do0 rfl rfl (D_store (vs := [_, _, _]) rfl Try.sizeOf44 rfl rfl rfl rfl rfl (plZ) (by exact Nat.le_of_ble_eq_true rfl)) ?_
                rintro _ _ rfl
                refine WL_val rfl rfl rfl (R_assign rfl rfl) ?_
                refine WL_nil ?_
                refine WQ_code ?_
                refine WC_ret ?_
                refine WQ_ret rfl rfl (.cons (.cell (vs := [_, _, _]) rfl ag44 (mmZ) rfl (atZ)) (.cons (.tmp rfl) .nil)) rfl (by
                    have he := getE_ok hm hd hw hdl
                    have hg9 := get_wait he hni hr
                    exact ⟨{ m with qes := es1, qmc := mc1, wes := es9, wmc := m.wmc + 1 }, by rw [hg9.2, he]; rfl, by rw [hg9.1], rfl, by rw [hg9.1]; exact h0.push (of_decide_eq_true (may_zero hm).1) hM1 hM9⟩) (pqZ)
  · have hg := c1
    refine WL_skip rfl rfl rfl ?_
    refine WL_skip rfl rfl rfl ?_
    refine WL_val rfl rfl rfl (R_pickF rfl rfl rfl) ?_
    refine WL_val rfl rfl rfl (R_move rfl rfl) ?_
    refine WL_set (s := 24) (v := .bool (decide (0 ≤ who ∧ who ≤ 1000))) rfl (by first | exact congrArg Value.bool (decide_eq_decide.2 (by omega)) | exact congrArg Value.bool (decide_eq_false (by omega)).symm) ?_
    refine WL_do rfl rfl rfl (D_call (pmay_ok h (decide (0 ≤ who ∧ who ≤ 1000)) now) rfl rfl rfl rfl (pqZ)) ?_
    rintro _ _ ⟨_, ⟨rfl, rfl⟩, rfl⟩
    refine WL_val rfl rfl rfl (R_assign rfl rfl) ?_
    refine WL_nil ?_
    refine WQ_code ?_
    refine WC_seq ?_
    refine WC_block ?_
    refine WC_seq ?_
    refine WC_region ?_
    refine WL_val rfl rfl rfl (R_move rfl rfl) ?_
    refine WL_val rfl rfl rfl (R_neq rfl rfl rfl) ?_
    refine WL_val rfl rfl rfl (R_assign rfl rfl) ?_
    refine WL_nil ?_
    refine WQ_code ?_
    refine WC_dec rfl (fun c7 => ?_) (fun c7 => ?_)
    · have hm := c7
      refine WC_seq ?_
      refine WC_region ?_
      refine WL_val rfl rfl rfl (R_build rfl zv44 pl44 rfl rfl) ?_
      refine WL_val rfl rfl rfl (R_move rfl rfl) ?_
      refine WL_do0 rfl rfl (D_store (vs := [_, _, _]) rfl Try.sizeOf44 rfl rfl rfl rfl rfl (plZ) (by exact Nat.le_of_ble_eq_true rfl)) ?_
      rintro _ _ rfl
      refine WL_val rfl rfl rfl (R_assign rfl rfl) ?_
      refine WL_nil ?_
      refine WQ_code ?_
      refine WC_ret ?_
      refine WQ_ret rfl rfl (.cons (.cell (vs := [_, _, _]) rfl ag44 (mmZ) rfl (atZ)) (.cons (.tmp rfl) .nil)) rfl (by
          have he : getE_ s who now dl = _ := getE_may hm
          have hg9 := get_err (s := s) (who := who) (now := now) (dl := dl) (by rw [he]; exact hm)
          exact ⟨m, by rw [hg9.2, he]; rfl, by rw [hg9.1], rfl, by rw [hg9.1]; exact h⟩) (pqZ)
    · have hm : s.may (decide (0 ≤ who ∧ who ≤ 1000)) now = 0 := Decidable.byContradiction c7
      refine WC_seq ?_
      refine WC_region ?_
      refine WL_val rfl rfl rfl (R_move rfl rfl) ?_
      refine WL_val rfl rfl rfl (R_move rfl rfl) ?_
      refine WL_val rfl rfl rfl (R_leq rfl rfl rfl) ?_
      refine WL_val rfl rfl rfl (R_assign rfl rfl) ?_
      refine WL_nil ?_
      refine WQ_code ?_
      refine WC_dec rfl (fun c8 => ?_) (fun c8 => ?_)
      · have hd : dl ≤ now := by omega
        refine WC_seq ?_
        refine WC_region ?_
        refine WL_val rfl rfl rfl (R_build rfl zv44 pl44 rfl rfl) ?_
        refine WL_do0 rfl rfl (D_store (vs := [_, _, _]) rfl Try.sizeOf44 rfl rfl rfl rfl rfl (plZ) (by exact Nat.le_of_ble_eq_true rfl)) ?_
        rintro _ _ rfl
        refine WL_val rfl rfl rfl (R_assign rfl rfl) ?_
        refine WL_nil ?_
        refine WQ_code ?_
        refine WC_ret ?_
        refine WQ_ret rfl rfl (.cons (.cell (vs := [_, _, _]) rfl ag44 (mmZ) rfl (atZ)) (.cons (.tmp rfl) .nil)) rfl (by
            have he : getE_ s who now dl = _ := getE_late hm hd
            have hg9 := get_err (s := s) (who := who) (now := now) (dl := dl) (by rw [he]; decide)
            exact ⟨m, by rw [hg9.2, he]; rfl, by rw [hg9.1], rfl, by rw [hg9.1]; exact h⟩) (pqZ)
      · have hd : ¬ dl ≤ now := by omega
        rcases waits_or s who with ⟨A, x, B, hQ, rfl⟩ | ⟨hw, hno⟩
        · refine WC_skip ?_
          refine WQ_code ?_
          refine WC_seq ?_
          refine WC_draw _ [(0, true), (1, true), (2, true), (3, true), (4, true), (5, true), (6, true), (7, true), (8, true), (9, false), (10, false), (11, true)] followsMixed rfl rfl (by kernel_rfl) .all ?_
          refine WM_val rfl rfl rfl rfl (R_load rfl sc23 rfl (mmZ) rfl) ?_
          refine WM_val rfl rfl rfl rfl (R_nilCheck rfl rfl) ?_
          refine WM_val rfl rfl rfl rfl (R_fieldAddr rfl fa71_6 rfl) ?_
          refine WM_val rfl rfl rfl rfl (R_load (v := .map (some m.wm)) rfl sc69 rfl (mmZ) (pc_t h.cl rfl 1)) ?_
          refine WM_val rfl rfl rfl rfl (R_load rfl sc3 rfl (mmZ) rfl) ?_
          refine WM_val rfl rfl rfl rfl (R_lookKT (k := x.who) (a := (x.t, x.dl)) rfl Try.underlying69 int_key rfl rfl mmZ h.wM (by rw [hQ]; exact List.mem_map_of_mem (List.mem_append_right _ (List.mem_cons_self ..)))) ?_
          refine WM_val rfl rfl rfl rfl (R_move rfl rfl) ?_
          refine WM_val rfl rfl rfl rfl (R_extract rfl rfl rfl) ?_
          refine WM_val rfl rfl rfl rfl (R_extract rfl rfl rfl) ?_
          refine WM_set (s := 45) (v := .bool true) rfl (by rfl) ?_
          refine WM_do rfl rfl rfl rfl (D_alloc rfl zv86) ?_
          rintro _ _ ⟨b6, rfl, rfl⟩
          refine ⟨⟨_, pqZ⟩, ?_⟩
          refine WM_do0 rfl rfl rfl (D_store (vs := [_, _]) rfl Try.sizeOf86 rfl rfl rfl rfl rfl (plZ) (by exact Nat.le_of_ble_eq_true rfl)) ?_
          rintro _ _ rfl
          refine ⟨⟨_, pqZ⟩, ?_⟩
          refine WM_val rfl rfl rfl rfl (R_assign rfl rfl) ?_
          refine WM_nil ?_
          refine WQ_code ?_
          refine WC_seq ?_
          refine WC_seq ?_
          refine WC_region ?_
          refine WL_val rfl rfl rfl (R_move rfl rfl) ?_
          refine WL_val rfl rfl rfl (R_move rfl rfl) ?_
          refine WL_skip rfl rfl rfl ?_
          refine WL_skip rfl rfl rfl ?_
          refine WL_skip rfl rfl rfl ?_
          refine WL_skip rfl rfl rfl ?_
          refine WL_skip rfl rfl rfl ?_
          refine WL_skip rfl rfl rfl ?_
          refine WL_val rfl rfl rfl (R_pickT rfl rfl rfl) ?_
          refine WL_nil ?_
          refine WQ_code ?_
          refine WC_T rfl ?_
          refine WC_seq ?_
          refine WC_region ?_
          refine WL_val rfl rfl rfl (R_build rfl zv44 pl44 rfl rfl) ?_
          refine WL_do0 rfl rfl (D_store (vs := [_, _, _]) rfl Try.sizeOf44 rfl rfl rfl rfl rfl (plZ) (by exact Nat.le_of_ble_eq_true rfl)) ?_
          rintro _ _ rfl
          refine WL_val rfl rfl rfl (R_assign rfl rfl) ?_
          refine WL_nil ?_
          refine WQ_code ?_
          refine WC_ret ?_
          refine WQ_ret rfl rfl (.cons (.cell (vs := [_, _, _]) rfl ag44 (mmZ) rfl (atZ)) (.cons (.tmp rfl) .nil)) rfl (by
              have he := getE_busy hm hd (.inl (waits_in hQ))
              have hg9 := get_err (by rw [he]; decide)
              exact ⟨m, by rw [hg9.2, he]; rfl, by rw [hg9.1], rfl, by rw [hg9.1]; exact h⟩) (pqZ)
        · refine WC_skip ?_
          refine WQ_code ?_
          refine WC_seq ?_
          refine WC_draw _ [(0, true), (1, true), (2, true), (3, true), (4, true), (5, true), (6, true), (7, true), (8, true), (9, false), (10, false), (11, true)] followsMixed rfl rfl (by kernel_rfl) .all ?_
          refine WM_val rfl rfl rfl rfl (R_load rfl sc23 rfl (mmZ) rfl) ?_
          refine WM_val rfl rfl rfl rfl (R_nilCheck rfl rfl) ?_
          refine WM_val rfl rfl rfl rfl (R_fieldAddr rfl fa71_6 rfl) ?_
          refine WM_val rfl rfl rfl rfl (R_load (v := .map (some m.wm)) rfl sc69 rfl (mmZ) (pc_t h.cl rfl 1)) ?_
          refine WM_val rfl rfl rfl rfl (R_load rfl sc3 rfl (mmZ) rfl) ?_
          refine WM_val rfl rfl rfl rfl (R_lookKF (k := who) (zv := .agg #[.int .u64 0, .int .u64 0]) rfl Try.underlying69 int_key rfl rfl mmZ h.wM hno (fun w => Try.zeroValue86 w)) ?_
          refine WM_val rfl rfl rfl rfl (R_move rfl rfl) ?_
          refine WM_val rfl rfl rfl rfl (R_extract rfl rfl rfl) ?_
          refine WM_val rfl rfl rfl rfl (R_extract rfl rfl rfl) ?_
          refine WM_set (s := 45) (v := .bool false) rfl (by rfl) ?_
          refine WM_do rfl rfl rfl rfl (D_alloc rfl zv86) ?_
          rintro _ _ ⟨b7, rfl, rfl⟩
          refine ⟨⟨_, pqZ⟩, ?_⟩
          refine WM_do0 rfl rfl rfl (D_store (vs := [_, _]) rfl Try.sizeOf86 rfl rfl rfl rfl rfl (plZ) (by exact Nat.le_of_ble_eq_true rfl)) ?_
          rintro _ _ rfl
          refine ⟨⟨_, pqZ⟩, ?_⟩
          refine WM_val rfl rfl rfl rfl (R_assign rfl rfl) ?_
          refine WM_nil ?_
          refine WQ_code ?_
          refine WC_seq ?_
          refine WC_seq ?_
          refine WC_region ?_
          refine WL_val rfl rfl rfl (R_move rfl rfl) ?_
          refine WL_val rfl rfl rfl (R_move rfl rfl) ?_
          refine WL_val rfl rfl rfl (R_load rfl sc23 rfl (mmZ) rfl) ?_
          refine WL_val rfl rfl rfl (R_nilCheck rfl rfl) ?_
          refine WL_val rfl rfl rfl (R_fieldAddr rfl fa71_4 rfl) ?_
          refine WL_val rfl rfl rfl (R_sliceArr rfl Try.underlying67 Try.sizeOf66 rfl) ?_
          refine WL_val rfl rfl rfl (R_makeFunc rfl rfl rfl) ?_
          refine WL_do rfl rfl rfl (D_call (ccon_ok h b2 who) rfl rfl rfl rfl (pqZ)) ?_
          rintro _ _ ⟨_, ⟨rfl, rfl⟩, rfl⟩
          refine WL_val rfl rfl rfl (R_pickF rfl rfl rfl) ?_
          refine WL_nil ?_
          refine WQ_code ?_
          refine WC_if rfl (fun c9 => ?_) (fun c9 => ?_)
          · have hdl := c9
            refine WC_seq ?_
            refine WC_region ?_
            refine WL_val rfl rfl rfl (R_build rfl zv44 pl44 rfl rfl) ?_
            refine WL_do0 rfl rfl (D_store (vs := [_, _, _]) rfl Try.sizeOf44 rfl rfl rfl rfl rfl (plZ) (by exact Nat.le_of_ble_eq_true rfl)) ?_
            rintro _ _ rfl
            refine WL_val rfl rfl rfl (R_assign rfl rfl) ?_
            refine WL_nil ?_
            refine WQ_code ?_
            refine WC_ret ?_
            refine WQ_ret rfl rfl (.cons (.cell (vs := [_, _, _]) rfl ag44 (mmZ) rfl (atZ)) (.cons (.tmp rfl) .nil)) rfl (by
                have he := getE_busy hm hd (.inr hdl)
                have hg9 := get_err (by rw [he]; decide)
                exact ⟨m, by rw [hg9.2, he]; rfl, by rw [hg9.1], rfl, by rw [hg9.1]; exact h⟩) (pqZ)
          · have hdl := c9
            refine WC_skip ?_
            refine WQ_code ?_
            refine WC_seq ?_
            refine WC_seq ?_
            refine WC_region ?_
            refine WL_val rfl rfl rfl (R_load rfl sc23 rfl (mmZ) rfl) ?_
            refine WL_do rfl rfl rfl (D_call (pfull_ok h hE) rfl rfl rfl rfl (pqZ)) ?_
            rintro _ _ ⟨_, ⟨rfl, rfl⟩, rfl⟩
            refine WL_val rfl rfl rfl (R_assign rfl rfl) ?_
            refine WL_nil ?_
            refine WQ_code ?_
            refine WC_seq ?_
            refine WC_region ?_
            refine WL_val rfl rfl rfl (R_move rfl rfl) ?_
            refine WL_val rfl rfl rfl (R_neq rfl rfl rfl) ?_
            refine WL_nil ?_
            refine WQ_code ?_
            refine WC_dF rfl (by simp) ?_
            refine WC_skip ?_
            refine WQ_code ?_
            refine WC_seq ?_
            refine WC_region ?_
            refine WL_val rfl rfl rfl (R_load rfl sc23 rfl (mmZ) rfl) ?_
            refine WL_val rfl rfl rfl (R_move rfl rfl) ?_
            refine WL_val rfl rfl rfl (R_nilCheck rfl rfl) ?_
            refine WL_val rfl rfl rfl (R_fieldAddr rfl fa71_3 rfl) ?_
            refine WL_do0 rfl rfl (D_store (vs := [_]) rfl Try.sizeOf28 rfl rfl rfl rfl rfl (plZ) (by exact pc_nowr m s)) ?_
            rintro _ _ rfl
            rw [pc_now]
            have h0 := h.canc _ hm hb
            refine WL_nil ?_
            refine WQ_code ?_
            refine WC_seq ?_
            refine WC_seq ?_
            refine WC_region ?_
            refine WL_val rfl rfl rfl (R_load rfl sc23 rfl (mmZ) rfl) ?_
            refine WL_do rfl rfl rfl (D_call (pall_ok h0 3) rfl rfl rfl rfl (pqZ)) ?_
            rintro _ _ ⟨_, ⟨o9, c9, tl9, rfl, own9, rfl⟩, rfl⟩
            refine WL_val rfl rfl rfl (R_assign rfl rfl) ?_
            refine WL_nil ?_
            refine WQ_code ?_
            refine WC_seq ?_
            refine WC_region ?_
            refine WL_val rfl rfl rfl (R_move rfl rfl) ?_
            refine WL_val rfl rfl rfl (R_len rfl Try.underlying78 rfl) ?_
            refine WL_val rfl rfl rfl (R_gtr rfl rfl rfl) ?_
            refine WL_nil ?_
            refine WQ_code ?_
            refine WC_dec rfl (fun c10 => ?_) (fun c10 => ?_)
            · have hl := c10
              refine WC_seq ?_
              refine WC_region ?_
              have hne : allI 3 s.C ≠ [] := fun e => by have h9 : ((allI 3 s.C).length : Int) > 0 := hl; rw [e] at h9; simp at h9
              obtain ⟨kl, xl, hkl, hxl, hkl2, _⟩ := last_mem hne
              rw [h.cl] at hkl2
              refine WL_val rfl rfl rfl (R_move rfl rfl) ?_
              refine WL_val rfl rfl rfl (R_makeFunc rfl rfl rfl) ?_
              refine WL_do rfl rfl rfl (D_call (maxf_ok (allI 3 s.C) o9 c9 tl9 own9 38 [.pointer (some ⟨b1, 0, none⟩)] [⟨some b1, cl [ptrP m.p] 23⟩, poP m (s.at_ now)] (idleC s.C) (fun a ha b hb => pget2_ok h0 b1 a b ha hb) (by show 1 ≤ (allI 3 s.C).length; exact List.length_pos_iff.2 hne) (by show (allI 3 s.C).length ≤ _; omega)) rfl rfl rfl rfl (pqZ)) ?_
              rintro _ _ ⟨_, ⟨rfl, rfl⟩, rfl⟩
              refine WL_val rfl rfl rfl (R_assign rfl rfl) ?_
              refine WL_nil ?_
              refine WQ_code ?_
              refine WC_seq ?_
              refine WC_region ?_
              refine WL_val rfl rfl rfl (R_load rfl sc23 rfl (mmZ) rfl) ?_
              refine WL_val rfl rfl rfl (R_move rfl rfl) ?_
              refine WL_val rfl rfl rfl (R_build rfl zv66 pl66 rfl rfl) ?_
              refine WL_val rfl rfl rfl (R_nilCheck rfl rfl) ?_
              refine WL_val rfl rfl rfl (R_fieldAddr rfl fa71_4 rfl) ?_
              refine WL_val rfl rfl rfl (R_indexAddrA rfl Try.underlying67 Try.sizeOf66 rfl rfl (by exact ⟨by show 0 ≤ s.last; omega, by show s.last < 64; omega⟩)) ?_
              refine WL_do0 rfl rfl (D_store (vs := [_, _, _]) rfl Try.sizeOf66 rfl rfl rfl rfl rfl (plZ) (by exact pc_room h.cl rfl (i := s.last.toNat) (by omega))) ?_
              rintro _ _ rfl
              rw [show putAt _ _ [.int .i64 (2), .int .i64 (0), .int .u64 (0)] = _ from pc_put (A := pcH _) rfl (y := ⟨2, 0, 0⟩) (show (s.at_ now).C[s.last.toNat]? = some xl from hxl) rfl]
              refine WL_nil ?_
              refine WQ_code ?_
              refine WC_seq ?_
              refine WC_region ?_
              refine WL_val rfl rfl rfl (R_load rfl sc3 rfl (mmZ) rfl) ?_
              refine WL_val rfl rfl rfl (R_move rfl rfl) ?_
              refine WL_val rfl rfl rfl (R_build rfl zv44 pl44 rfl rfl) ?_
              refine WL_do0 rfl rfl (D_store (vs := [_, _, _]) rfl Try.sizeOf44 rfl rfl rfl rfl rfl (plZ) (by exact Nat.le_of_ble_eq_true rfl)) ?_
              rintro _ _ rfl
              refine WL_val rfl rfl rfl (R_assign rfl rfl) ?_
              refine WL_nil ?_
              refine WQ_code ?_
              refine WC_ret ?_
              refine WQ_ret rfl rfl (.cons (.cell (vs := [_, _, _]) rfl ag44 (mmZ) rfl (atZ)) (.cons (.tmp rfl) .nil)) rfl (by
                  have he := getE_ok hm hd hw hdl
                  have hg9 := get_use he hne
                  exact ⟨m, by rw [hg9.2, he]; rfl, by rw [hg9.1], rfl, by rw [hg9.1]; exact h0.set (Nat.zero_le _) (⟨by decide, by decide⟩ : (0 : Int) ≤ 2 ∧ (2 : Int) ≤ 3)⟩) (pqZ)
            · have hni : allI 3 s.C = [] := List.eq_nil_of_length_eq_zero (by have h9 : ¬ ((allI 3 s.C).length : Int) > 0 := c10; omega)
              refine WC_skip ?_
              refine WQ_code ?_
              refine WC_seq ?_
              refine WC_seq ?_
              refine WC_region ?_
              refine WL_val rfl rfl rfl (R_load rfl sc23 rfl (mmZ) rfl) ?_
              refine WL_do rfl rfl rfl (D_call (proom_ok h0) rfl rfl rfl rfl (pqZ)) ?_
              rintro _ _ ⟨_, ⟨rfl, rfl⟩, rfl⟩
              refine WL_nil ?_
              refine WQ_code ?_
              refine WC_if rfl (fun c11 => ?_) (fun c11 => ?_)
              · have hr : s.room = true := c11
                refine WC_seq ?_
                refine WC_draw ([⟨some b1, cl [ptrP m.p] 23⟩, ⟨some b2, cl [.int .i64 who] 3⟩]) [(0, true), (1, true), (2, true), (3, false), (4, true), (5, false), (6, true)] followsMixed rfl rfl (by kernel_rfl) pqZ ?_
                refine WM_val rfl rfl rfl rfl (R_load rfl sc3 rfl (mmZ) rfl) ?_
                refine WM_val rfl rfl rfl rfl (R_load rfl sc23 rfl (mmZ) rfl) ?_
                refine WM_val rfl rfl rfl rfl (R_load rfl sc3 rfl (mmZ) rfl) ?_
                refine WM_do rfl rfl rfl rfl (D_call (pdial_ok h0 who (PS.room_ne (s := s) hr h.cl h.op.2)) rfl rfl rfl rfl (pqZ)) ?_
                rintro _ _ ⟨_, ⟨rfl, rfl⟩, rfl⟩
                refine ⟨⟨_, pqZ⟩, ?_⟩
                refine WM_val rfl rfl rfl rfl (R_build rfl zv44 pl44 rfl rfl) ?_
                refine WM_do0 rfl rfl rfl (D_store (vs := [_, _, _]) rfl Try.sizeOf44 rfl rfl rfl rfl rfl (plZ) (by exact Nat.le_of_ble_eq_true rfl)) ?_
                rintro _ _ rfl
                refine ⟨⟨_, pqZ⟩, ?_⟩
                refine WM_val rfl rfl rfl rfl (R_assign rfl rfl) ?_
                refine WM_nil ?_
                refine WQ_code ?_
                refine WC_ret ?_
                refine WQ_ret rfl rfl (.cons (.cell (vs := [_, _, _]) rfl ag44 (mmZ) rfl (atZ)) (.cons (.tmp rfl) .nil)) rfl (by
                    have he := getE_ok hm hd hw hdl
                    have hg9 := get_dial he hni hr
                    exact ⟨m, by rw [hg9.2, he]; rfl, by rw [hg9.1], rfl, by rw [hg9.1]; exact h0.dial who⟩) (pqZ)
              · have hr : s.room = false := c11
                refine WC_skip ?_
                refine WQ_code ?_
                refine WC_seq ?_
                refine WC_draw ([⟨some b1, cl [ptrP m.p] 23⟩, ⟨some b2, cl [.int .i64 who] 3⟩, poP m (s.at_ now)]) [(0, true), (1, true), (2, true), (3, true), (4, true), (5, false), (6, true), (7, true), (8, true), (9, true), (10, true)] followsMixed rfl rfl (by kernel_rfl) pqZ ?_
                refine WM_val rfl rfl rfl rfl (R_load rfl sc23 rfl (mmZ) rfl) ?_
                refine WM_val rfl rfl rfl rfl (R_nilCheck rfl rfl) ?_
                refine WM_val rfl rfl rfl rfl (R_fieldAddr rfl fa71_5 rfl) ?_
                refine WM_val rfl rfl rfl rfl (R_load (v := ptrQ m.q) rfl sc68 rfl (mmZ) (pc_t h.cl rfl 0)) ?_
                refine WM_val rfl rfl rfl rfl (R_load rfl sc3 rfl (mmZ) rfl) ?_
                refine WM_do rfl rfl rfl rfl (D_call (qpush_ok m.q m.qm (fq s.Q) s.n m.qes m.qmc h.qk h.qM (by rw [List.length_map]; omega) hn who) rfl rfl rfl rfl (pqZ)) ?_
                rintro _ _ ⟨_, ⟨es1, mc1, rfl, rfl, hM1⟩, rfl⟩
                refine ⟨⟨_, pqZ⟩, ?_⟩
                rw [← fq_app s.Q ⟨s.n + 1, who, dl⟩] at hM1 ⊢
                refine WM_val rfl rfl rfl rfl (R_move rfl rfl) ?_
                refine WM_val rfl rfl rfl rfl (R_extract rfl rfl rfl) ?_
                refine WM_val rfl rfl rfl rfl (R_extract rfl rfl rfl) ?_
                refine WM_val rfl rfl rfl rfl (R_assign rfl rfl) ?_
                refine WM_val rfl rfl rfl rfl (R_assign rfl rfl) ?_
                refine WM_nil ?_
                refine WQ_code ?_
                refine WC_seq ?_
                refine WC_draw ([⟨some b1, cl [ptrP m.p] 23⟩, ⟨some b2, cl [.int .i64 who] 3⟩, poP m (s.at_ now)]) [(0, true), (1, true), (2, true), (3, true), (4, true), (5, true), (6, true), (7, true), (8, false)] followsMixed rfl rfl (by kernel_rfl) pqZ ?_
                refine WM_val rfl rfl rfl rfl (R_load rfl sc23 rfl (mmZ) rfl) ?_
                refine WM_val rfl rfl rfl rfl (R_nilCheck rfl rfl) ?_
                refine WM_val rfl rfl rfl rfl (R_fieldAddr rfl fa71_6 rfl) ?_
                refine WM_val rfl rfl rfl rfl (R_load (v := .map (some m.wm)) rfl sc69 rfl (mmZ) (pc_t h.cl rfl 1)) ?_
                refine WM_val rfl rfl rfl rfl (R_load rfl sc3 rfl (mmZ) rfl) ?_
                refine WM_val rfl rfl rfl rfl (R_move rfl rfl) ?_
                refine WM_val rfl rfl rfl rfl (R_move rfl rfl) ?_
                refine WM_val rfl rfl rfl rfl (R_build rfl zv86 pl86 rfl rfl) ?_
                refine WM_do0 rfl rfl rfl (D_mapAddK (k := who) (v := (s.n + 1, dl)) rfl Try.underlying69 int_key rfl rfl rfl plZ h.wM hno) ?_
                rintro _ _ ⟨es9, hM9, rfl⟩
                refine ⟨⟨_, pqZ⟩, ?_⟩
                refine WM_nil ?_
                refine WQ_code ?_
                refine WC_seq ?_
                refine WC_region ?_
                refine WL_val rfl rfl rfl (R_load rfl sc3 rfl (mmZ) rfl) ?_
                refine WL_val rfl rfl rfl (R_build rfl zv44 pl44 rfl rfl) ?_
                refine WL_do0 rfl rfl (D_store (vs := [_, _, _]) rfl Try.sizeOf44 rfl rfl rfl rfl rfl (plZ) (by exact Nat.le_of_ble_eq_true rfl)) ?_
                rintro _ _ rfl
                refine WL_val rfl rfl rfl (R_assign rfl rfl) ?_
                refine WL_nil ?_
                refine WQ_code ?_
                refine WC_ret ?_
                refine WQ_ret rfl rfl (.cons (.cell (vs := [_, _, _]) rfl ag44 (mmZ) rfl (atZ)) (.cons (.tmp rfl) .nil)) rfl (by
                    have he := getE_ok hm hd hw hdl
                    have hg9 := get_wait he hni hr
                    exact ⟨{ m with qes := es1, qmc := mc1, wes := es9, wmc := m.wmc + 1 }, by rw [hg9.2, he]; rfl, by rw [hg9.1], rfl, by rw [hg9.1]; exact h0.push (of_decide_eq_true (may_zero hm).1) hM1 hM9⟩) (pqZ)
end Go.Proofs.Yteofigbgdbpjgaa
end
section
set_option linter.unusedVariables false
set_option maxRecDepth 20000
set_option maxHeartbeats 1000000
namespace Go.Proofs.Yteofigbgdbpjgaa
theorem delf_none (l : List Int) (o : Option Nat) (c : Nat) (tl : List Value) (own : Own o l.length c 1 (ivs l) tl) (gf : Nat) (ca : List Value) (Hc : Heap) (p : Int → Bool) (hf : ∀ v ∈ l, Spec Try.prog gf (.int .i64 v :: ca) Hc (fun r H' => r = .bool (p v) ∧ Hc = H')) (hb : l.length ≤ 1000000) (hn : ∀ v ∈ l, p v = false) : Spec Try.prog 46 [slV o l.length c, .func (.func gf) #[] ca.toArray] (⟨o, cl (ivs l ++ tl) 3⟩ :: Hc) (fun r H' => ∃ (n2 : Nat) (tl2 : List Value), n2 = (l.filter (fun v => !p v)).length ∧ r = slV o n2 c ∧ Own o n2 c 1 (ivs (l.filter (fun v => !p v))) tl2 ∧ H' = ⟨o, cl (ivs (l.filter (fun v => !p v)) ++ tl2) 3⟩ :: Hc) := by
  have hidx := idxF_none hn
  have hfl : l.filter (fun v => !p v) = l := List.filter_eq_self.2 fun v hv => by rw [hn v hv]; rfl
  rw [hfl]
  refine Spec.of (E := [(0, slV o l.length c), (1, .func (.func gf) #[] ca.toArray)]) Try.func46 rfl (by kernel_rfl) Try.ntmps46 rfl rfl (fun w => ?_)
  refine WC_seq ?_
  refine WC_region ?_
  refine WL_val rfl rfl rfl (R_assign rfl rfl) ?_
  refine WL_nil ?_
  refine WQ_code ?_
  refine WC_seq ?_
  refine WC_region ?_
  refine WL_val rfl rfl rfl (R_move rfl rfl) ?_
  refine WL_val rfl rfl rfl (R_move rfl rfl) ?_
  refine WL_do rfl rfl rfl (D_call (idxf_ok l o c tl own gf ca Hc p hf hb) rfl rfl rfl rfl (pqY)) ?_
  rintro _ _ ⟨_, ⟨rfl, rfl⟩, rfl⟩
  refine WL_val rfl rfl rfl (R_assign rfl rfl) ?_
  refine WL_nil ?_
  refine WQ_code ?_
  refine WC_seq ?_
  refine WC_seq ?_
  refine WC_region ?_
  refine WL_val rfl rfl rfl (R_move rfl rfl) ?_
  refine WL_val rfl rfl rfl (R_eql rfl rfl rfl) ?_
  refine WL_nil ?_
  refine WQ_code ?_
  refine WC_dT rfl (by exact hidx) ?_
  refine WC_seq ?_
  refine WC_region ?_
  refine WL_val rfl rfl rfl (R_move rfl rfl) ?_
  refine WL_val rfl rfl rfl (R_assign rfl rfl) ?_
  refine WL_nil ?_
  refine WQ_code ?_
  refine WC_ret ?_
  refine WQ_ret rfl rfl (.cons (.tmp rfl) .nil) rfl (by
      exact ⟨_, tl, rfl, rfl, own, rfl⟩) (pqY)
theorem delf_some (l : List Int) (o : Option Nat) (c : Nat) (tl : List Value) (own : Own o l.length c 1 (ivs l) tl) (gf : Nat) (ca : List Value) (Hc : Heap) (p : Int → Bool) (hf : ∀ v ∈ l, Spec Try.prog gf (.int .i64 v :: ca) Hc (fun r H' => r = .bool (p v) ∧ Hc = H')) (hb : l.length ≤ 1000000) {k : Nat} {x0 : Int} (h0 : ∀ v ∈ l.take k, p v = false) (hx0 : l[k]? = some x0) (hp0 : p x0 = true) : Spec Try.prog 46 [slV o l.length c, .func (.func gf) #[] ca.toArray] (⟨o, cl (ivs l ++ tl) 3⟩ :: Hc) (fun r H' => ∃ (n2 : Nat) (tl2 : List Value), n2 = (l.filter (fun v => !p v)).length ∧ r = slV o n2 c ∧ Own o n2 c 1 (ivs (l.filter (fun v => !p v))) tl2 ∧ H' = ⟨o, cl (ivs (l.filter (fun v => !p v)) ++ tl2) 3⟩ :: Hc) := by
  have hidx := idxF_hit h0 hx0 hp0
  have hkl := (List.getElem?_eq_some_iff.1 hx0).1
  have hlc := own.le
  obtain ⟨wa, rfl⟩ := own.some_of (by omega)
  have hfk : l.take k = (l.take (k + 1)).filter (fun v => !p v) := by rw [flt_next hx0, if_pos hp0, List.append_nil]; exact (List.filter_eq_self.2 fun v hv => by rw [h0 v hv]; rfl).symm
  have hstart : l = l.take k ++ ([x0] ++ l.drop (k + 1)) := by rw [List.singleton_append, ← drop_at hx0, List.take_append_drop]
  refine Spec.of (E := [(0, slV (some wa) l.length c), (1, .func (.func gf) #[] ca.toArray)]) Try.func46 rfl (by kernel_rfl) Try.ntmps46 rfl rfl (fun w => ?_)
  refine WC_seq ?_
  refine WC_region ?_
  refine WL_val rfl rfl rfl (R_assign rfl rfl) ?_
  refine WL_nil ?_
  refine WQ_code ?_
  refine WC_seq ?_
  refine WC_region ?_
  refine WL_val rfl rfl rfl (R_move rfl rfl) ?_
  refine WL_val rfl rfl rfl (R_move rfl rfl) ?_
  refine WL_do rfl rfl rfl (D_call (idxf_ok l (some wa) c tl own gf ca Hc p hf hb) rfl rfl rfl rfl (pqY)) ?_
  rintro _ _ ⟨_, ⟨rfl, rfl⟩, rfl⟩
  refine WL_val rfl rfl rfl (R_assign rfl rfl) ?_
  refine WL_nil ?_
  refine WQ_code ?_
  refine WC_seq ?_
  refine WC_seq ?_
  refine WC_region ?_
  refine WL_val rfl rfl rfl (R_move rfl rfl) ?_
  refine WL_val rfl rfl rfl (R_eql rfl rfl rfl) ?_
  refine WL_nil ?_
  refine WQ_code ?_
  refine WC_dF rfl (by rw [hidx]; omega) ?_
  refine WC_skip ?_
  refine WQ_code ?_
  refine WC_seq ?_
  refine WC_seq ?_
  refine WC_region ?_
  refine WL_val rfl rfl rfl (R_move rfl rfl) ?_
  refine WL_val rfl rfl rfl (R_add rfl rfl rfl (by omega)) ?_
  refine WL_val rfl rfl rfl (R_assign rfl rfl) ?_
  refine WL_nil ?_
  refine WQ_code ?_
  refine WC_block ?_
  refine WC_set (s := 6) (v := .int .i64 ((k + 1 : Nat) : Int)) rfl (by rw [hidx]; rfl) ?_
  refine WC_set (s := 5) (v := .int .i64 (((l.take k).length : Nat) : Int)) rfl (by rw [hidx, List.length_take, Nat.min_eq_left (by omega)]) ?_
  rw [show cl (ivs l ++ tl) 3 = cl (ivs (l.take k ++ ([x0] ++ l.drop (k + 1))) ++ tl) 3 from by rw [← hstart]]
  refine WC_loopF (G := DelW) [5, 6, 7, 16, 17, 18, 19, 20, 21, 22, 23, 24, 25, 26, 27, 28, 29, 30, 31, 32, 33, 34, 35] (fun y => y.j ≤ l.length ∧ y.A = (l.take y.j).filter (fun v => !p v) ∧ y.A.length + y.J.length = y.j ∧ 1 ≤ y.J.length) (fun y => [(6, .int .i64 (y.j : Int)), (5, .int .i64 (y.A.length : Int))]) (fun y => [⟨some wa, cl (ivs (y.A ++ (y.J ++ l.drop y.j)) ++ tl) 3⟩]) (fun y => l.length - y.j) (⟨k + 1, l.take k, [x0]⟩) (⟨by dsimp only; omega, hfk, by dsimp only; rw [List.length_take, Nat.min_eq_left (by omega)]; rfl, Nat.le_refl _⟩) leZ (pqY) ?_
  rintro y ⟨hj, hA, hAJ, hJ⟩
  refine WC_seq ?_
  refine WC_seq ?_
  refine WC_region ?_
  refine WL_val rfl rfl rfl (R_move rfl rfl) ?_
  refine WL_val rfl rfl rfl (R_move rfl rfl) ?_
  refine WL_val rfl rfl rfl (R_len rfl Try.underlying78 rfl) ?_
  refine WL_val rfl rfl rfl (R_lss rfl rfl rfl) ?_
  refine WL_nil ?_
  refine WQ_code ?_
  refine WC_dec rfl (fun c1 => ?_) (fun c1 => ?_)
  · refine WC_skip ?_
    refine WQ_code ?_
    refine WC_seq ?_
    refine WC_block ?_
    refine WC_seq ?_
    refine WC_region ?_
    obtain ⟨x, hx⟩ := getE (T := l) (i := y.j) (by omega)
    have hdx := drop_at hx
    have hxm : (y.A ++ (y.J ++ l.drop y.j))[y.j]? = some x := by rw [hdx]; exact mid_get hAJ
    refine WL_val rfl rfl rfl (R_move rfl rfl) ?_
    refine WL_val rfl rfl rfl (R_move rfl rfl) ?_
    refine WL_val rfl rfl rfl (R_indexAddrN rfl Try.underlying78 Try.sizeOf3 rfl rfl (by omega)) ?_
    refine WL_val rfl rfl rfl (R_load (v := .int .i64 x) rfl sc3 rfl (mmY) (fm_get0 encI1 hxm (j := 0) (by omega))) ?_
    refine WL_val rfl rfl rfl (R_assign rfl rfl) ?_
    refine WL_nil ?_
    refine WQ_code ?_
    refine WC_seq ?_
    refine WC_region ?_
    refine WL_val rfl rfl rfl (R_move rfl rfl) ?_
    refine WL_val rfl rfl rfl (R_move rfl rfl) ?_
    refine WL_do rfl rfl rfl (D_call (hf x (List.mem_of_getElem? hx)) rfl rfl rfl rfl (pqY)) ?_
    rintro _ _ ⟨_, ⟨rfl, rfl⟩, rfl⟩
    refine WL_val rfl rfl rfl (R_not rfl rfl) ?_
    refine WL_nil ?_
    refine WQ_code ?_
    refine WC_if rfl (fun c2 => ?_) (fun c2 => ?_)
    · have hc : p x = false := by simpa using c2
      obtain ⟨y9, J2, hJ2⟩ : ∃ a b, y.J = a :: b := by cases hq : y.J with | nil => rw [hq] at hJ; simp at hJ | cons a b => exact ⟨a, b, rfl⟩
      have hset : (y.A ++ (y.J ++ l.drop y.j)).set y.A.length x = (y.A ++ [x]) ++ ((J2 ++ [x]) ++ l.drop (y.j + 1)) := by rw [hJ2, mid_set, hdx]; simp
      refine WC_seq ?_
      refine WC_region ?_
      refine WL_val rfl rfl rfl (R_move rfl rfl) ?_
      refine WL_val rfl rfl rfl (R_move rfl rfl) ?_
      refine WL_val rfl rfl rfl (R_move rfl rfl) ?_
      refine WL_val rfl rfl rfl (R_indexAddrN rfl Try.underlying78 Try.sizeOf3 rfl rfl (by omega)) ?_
      refine WL_do0 rfl rfl (D_store (vs := [_]) rfl Try.sizeOf3 rfl rfl rfl rfl rfl (plY) (by exact fm_room0 encI1 (show y.A.length < (y.A ++ (y.J ++ l.drop y.j)).length by rw [List.length_append, List.length_append]; omega) (j := 0) (by omega))) ?_
      rintro _ _ rfl
      have hput := fm_put0 encI1 x (show (y.A ++ (y.J ++ l.drop y.j))[y.A.length]? = some y9 by rw [hJ2]; exact mid_at) (j := 0) (vs := [.int .i64 x]) (by simp) rfl (tl := tl)
      rw [Nat.add_zero] at hput
      rw [show ivs (y.A ++ (y.J ++ l.drop y.j)) = (y.A ++ (y.J ++ l.drop y.j)).flatMap encI from rfl, hput]
      refine WL_nil ?_
      refine WQ_code ?_
      refine WC_region ?_
      refine WL_val rfl rfl rfl (R_move rfl rfl) ?_
      refine WL_val rfl rfl rfl (R_add rfl rfl rfl (by omega)) ?_
      refine WL_set (s := 35) (v := .int .i64 (((y.A ++ [x]).length : Nat) : Int)) rfl (by rw [List.length_append]; rfl) ?_
      refine WL_val rfl rfl rfl (R_assign rfl rfl) ?_
      refine WL_nil ?_
      refine WQ_code ?_
      refine WC_region ?_
      refine WL_val rfl rfl rfl (R_move rfl rfl) ?_
      refine WL_val rfl rfl rfl (R_add rfl rfl rfl (by omega)) ?_
      refine WL_val rfl rfl rfl (R_assign rfl rfl) ?_
      refine WL_nil ?_
      rw [hset]
      refine WQ_nextF (⟨y.j + 1, y.A ++ [x], J2 ++ [x]⟩) (⟨by dsimp only; omega, by dsimp only; rw [flt_next hx, if_neg (by rw [hc]; decide), ← hA], by dsimp only; rw [List.length_append, List.length_append]; simp only [List.length_cons, List.length_nil]; rw [hJ2] at hAJ; rw [List.length_cons] at hAJ; omega, by dsimp only; rw [List.length_append]; simp⟩) (by dsimp only; omega) leZ (psZ) rfl (pqY)
    · have hc : p x = true := by simpa using c2
      refine WC_skip ?_
      refine WQ_code ?_
      refine WC_region ?_
      refine WL_val rfl rfl rfl (R_move rfl rfl) ?_
      refine WL_val rfl rfl rfl (R_add rfl rfl rfl (by omega)) ?_
      refine WL_val rfl rfl rfl (R_assign rfl rfl) ?_
      refine WL_nil ?_
      rw [show y.A ++ (y.J ++ l.drop y.j) = y.A ++ ((y.J ++ [x]) ++ l.drop (y.j + 1)) from by rw [hdx]; simp]
      refine WQ_nextF (⟨y.j + 1, y.A, y.J ++ [x]⟩) (⟨by dsimp only; omega, by dsimp only; rw [flt_next hx, if_pos hc, List.append_nil]; exact hA, by dsimp only; rw [List.length_append]; simp only [List.length_cons, List.length_nil]; omega, by dsimp only; rw [List.length_append]; omega⟩) (by dsimp only; omega) leZ (psZ) rfl (pqY)
  · have hjl : y.j = l.length := by omega
    have hdl : l.drop y.j = [] := by rw [hjl, List.drop_length]
    refine WC_exit ?_
    refine WQ_code ?_
    refine WC_seq ?_
    refine WC_region ?_
    refine WL_val rfl rfl rfl (R_move rfl rfl) ?_
    refine WL_val rfl rfl rfl (R_move rfl rfl) ?_
    refine WL_val rfl rfl rfl (R_sliceFromK (m := y.A.length) rfl Try.underlying78 Try.sizeOf3 rfl rfl (by omega)) ?_
    rw [if_neg (by omega)]
    refine WL_do0 rfl rfl (D_clear rfl si78 (fun v hv => by simp at hv; subst hv; rfl) rfl plY (.inr (by rw [hdl, List.append_nil]; (show _ ≤ (ivs (y.A ++ y.J) ++ tl).length); rw [List.length_append, ivs_len, List.length_append]; omega))) ?_
    rintro _ _ ⟨ns, hns, rfl⟩
    rw [hdl, List.append_nil, show putAt (ivs (y.A ++ y.J) ++ tl) (0 + y.A.length * 1) ns = ivs y.A ++ (ns ++ tl) from by rw [show ivs (y.A ++ y.J) = ivs y.A ++ ivs y.J from List.flatMap_append, List.append_assoc, show 0 + y.A.length * 1 = (ivs y.A).length + 0 from by rw [ivs_len]; omega, putAt_append, putAt_eq _ _ _ (by rw [List.length_append, ivs_len]; omega)]; rw [List.take_zero, List.nil_append, Nat.zero_add, List.drop_append_of_le_length (by rw [ivs_len]; omega), List.drop_of_length_le (by rw [ivs_len]; omega), List.nil_append]]
    refine WL_nil ?_
    refine WQ_code ?_
    refine WC_seq ?_
    refine WC_region ?_
    refine WL_val rfl rfl rfl (R_move rfl rfl) ?_
    refine WL_val rfl rfl rfl (R_move rfl rfl) ?_
    refine WL_val rfl rfl rfl (R_sliceTo (m := y.A.length) rfl Try.underlying78 Try.sizeOf3 rfl rfl (by omega)) ?_
    refine WL_val rfl rfl rfl (R_assign rfl rfl) ?_
    refine WL_nil ?_
    refine WQ_code ?_
    refine WC_ret ?_
    rw [hjl, List.take_length] at hA
    rw [← hA]
    refine WQ_ret rfl rfl (.cons (.tmp rfl) .nil) rfl (by
        exact ⟨y.A.length, ns ++ tl, rfl, rfl, ⟨by rw [ivs_len]; omega, by have h8 := own.cap; rw [ivs_len] at h8 ⊢; rw [List.length_append]; omega, by omega, own.big, fun e => by cases e⟩, rfl⟩) (pqY)
theorem delf_ok (l : List Int) (o : Option Nat) (c : Nat) (tl : List Value) (own : Own o l.length c 1 (ivs l) tl) (gf : Nat) (ca : List Value) (Hc : Heap) (p : Int → Bool) (hf : ∀ v ∈ l, Spec Try.prog gf (.int .i64 v :: ca) Hc (fun r H' => r = .bool (p v) ∧ Hc = H')) (hb : l.length ≤ 1000000) : Spec Try.prog 46 [slV o l.length c, .func (.func gf) #[] ca.toArray] (⟨o, cl (ivs l ++ tl) 3⟩ :: Hc) (fun r H' => ∃ (n2 : Nat) (tl2 : List Value), n2 = (l.filter (fun v => !p v)).length ∧ r = slV o n2 c ∧ Own o n2 c 1 (ivs (l.filter (fun v => !p v))) tl2 ∧ H' = ⟨o, cl (ivs (l.filter (fun v => !p v)) ++ tl2) 3⟩ :: Hc) := by
  by_cases hn : ∀ v ∈ l, p v = false
  · exact delf_none l o c tl own gf ca Hc p hf hb hn
  · have key : ∀ (l : List Int), ¬ (∀ v ∈ l, p v = false) → ∃ k x0, (∀ v ∈ l.take k, p v = false) ∧ l[k]? = some x0 ∧ p x0 = true := by
      intro l
      induction l with
      | nil => intro h; exact absurd (fun v hv => by cases hv) h
      | cons a r ih =>
        intro h
        cases hp : p a with
        | true => exact ⟨0, a, fun v hv => by simp at hv, rfl, hp⟩
        | false =>
          obtain ⟨k, x0, h1, h2, h3⟩ := ih fun hr => h fun v hv => by
            rcases List.mem_cons.1 hv with rfl | hv
            · exact hp
            · exact hr v hv
          refine ⟨k + 1, x0, fun v hv => ?_, by simpa using h2, h3⟩
          rw [List.take_succ_cons] at hv
          rcases List.mem_cons.1 hv with rfl | hv
          · exact hp
          · exact h1 v hv
    obtain ⟨k, x0, h1, h2, h3⟩ := key l hn
    exact delf_some l o c tl own gf ca Hc p hf hb h1 h2 h3
end Go.Proofs.Yteofigbgdbpjgaa
end
section
set_option linter.unusedVariables false
set_option maxRecDepth 20000
namespace Go.Proofs.Yteofigbgdbpjgaa
theorem ptellH_ok {m : PM} {s : PS} (h : PIs m s) (k who c : Int) (hE : s.E.length ≤ 1000000) : Spec Try.prog 32 [ptrP m.p, .int .i64 k, .int .i64 who, .int .i64 c] (poH m s) (fun r H' => ∃ m', r = .tuple #[] ∧ H' = poH m' (s.tell k who c) ∧ m'.p = m.p ∧ PIs m' (s.tell k who c)) :=
  Spec.re ((((ptell_ok h k who c hE).fr (qH m.q m.qm (fq s.Q) s.n m.qes m.qmc ++ [poW m])).perm (List.Perm.cons _ (List.perm_append_comm (l₁ := qH m.q m.qm (fq s.Q) s.n m.qes m.qmc ++ [poW m]) (l₂ := [poV m s])))).mono fun r H' ⟨H1, ⟨ob, ek, ec, epre, etl, h1, h2, h3⟩, h4⟩ =>
    ⟨poH { m with eb := ob, ek := ek, ec := ec, epre := epre, etl := etl } (s.tell k who c), by rw [h4, h2]; exact (List.Perm.cons _ (List.perm_append_comm (l₁ := qH m.q m.qm (fq s.Q) s.n m.qes m.qmc ++ [poW m]) (l₂ := [poV { m with eb := ob, ek := ek, ec := ec, epre := epre, etl := etl } (s.tell k who c)]))).symm, _, h1, rfl, rfl, h.tell h3⟩)
theorem pshut_eq (s : PS) (i : Nat) : s.shut (i : Int) = (s.tell 5 (-1) (i : Int)).lose i := by
  show (s.tell 5 (-1) (i : Int)).lose ((i : Int)).toNat = _
  rw [Int.toNat_natCast]
end Go.Proofs.Yteofigbgdbpjgaa
end
section
set_option linter.unusedVariables false
set_option maxRecDepth 20000
set_option maxHeartbeats 4000000
namespace Go.Proofs.Yteofigbgdbpjgaa
theorem padv_ok {m : PM} {s : PS} (h : PIs m s) (hE : s.E.length ≤ 10000) (now : Nat) (hb : now ≤ 18446744073709551615) (h19 : s.cnt 3 ≤ 19) : Spec Try.prog 18 [ptrP m.p, .int .u64 (now : Int)] (poH m s) (fun r H' => ∃ m', r = .int .i64 (s.may true now) ∧ H' = poH m' (s.advance now) ∧ m'.p = m.p ∧ PIs m' (s.advance now)) := by
  have hql := h.ql
  have hll : (s.late now).length ≤ 1001 := by have := (late_perm s now).length_eq; have h9 := List.length_filter_le (fun x : Qp => decide (x.dl ≤ now)) s.Q; omega
  have hml : ((s.late now).map (·.who)).length = (s.late now).length := List.length_map _
  refine Spec.of (E := [(0, ptrP m.p), (1, .int .u64 (now : Int))]) Try.func18 rfl (by kernel_rfl) Try.ntmps18 rfl rfl (fun w => ?_)
  refine WC_seq ?_
  refine WC_region ?_
  refine WL_do rfl rfl rfl (D_box (cs := [_]) rfl rfl rfl) ?_
  rintro _ _ ⟨b1, rfl, rfl⟩
  refine WL_do rfl rfl rfl (D_box (cs := [_]) rfl rfl rfl) ?_
  rintro _ _ ⟨b2, rfl, rfl⟩
  refine WL_val rfl rfl rfl (R_assign rfl rfl) ?_
  refine WL_nil ?_
  refine WQ_code ?_
  refine WC_seq ?_
  refine WC_seq ?_
  refine WC_region ?_
  refine WL_val rfl rfl rfl (R_load rfl sc23 rfl (mmZ) rfl) ?_
  refine WL_val rfl rfl rfl (R_load rfl sc28 rfl (mmZ) rfl) ?_
  refine WL_do rfl rfl rfl (D_call (pmay_ok h true now) rfl rfl rfl rfl (pqZ)) ?_
  rintro _ _ ⟨_, ⟨rfl, rfl⟩, rfl⟩
  refine WL_val rfl rfl rfl (R_assign rfl rfl) ?_
  refine WL_nil ?_
  refine WQ_code ?_
  refine WC_seq ?_
  refine WC_region ?_
  refine WL_val rfl rfl rfl (R_move rfl rfl) ?_
  refine WL_val rfl rfl rfl (R_neq rfl rfl rfl) ?_
  refine WL_nil ?_
  refine WQ_code ?_
  refine WC_dec rfl (fun c1 => ?_) (fun c1 => ?_)
  · have hm := c1
    refine WC_seq ?_
    refine WC_region ?_
    refine WL_val rfl rfl rfl (R_move rfl rfl) ?_
    refine WL_val rfl rfl rfl (R_assign rfl rfl) ?_
    refine WL_nil ?_
    refine WQ_code ?_
    refine WC_ret ?_
    refine WQ_ret rfl rfl (.cons (.tmp rfl) .nil) rfl (by
        exact ⟨m, rfl, by rw [adv_no hm], rfl, by rw [adv_no hm]; exact h⟩) (pqZ)
  · have hm : s.may true now = 0 := Decidable.byContradiction c1
    refine WC_skip ?_
    refine WQ_code ?_
    refine WC_seq ?_
    refine WC_seq ?_
    refine WC_region ?_
    refine WL_val rfl rfl rfl (R_load rfl sc23 rfl (mmZ) rfl) ?_
    refine WL_do rfl rfl rfl (D_call (pfull_ok h hE) rfl rfl rfl rfl (pqZ)) ?_
    rintro _ _ ⟨_, ⟨rfl, rfl⟩, rfl⟩
    refine WL_val rfl rfl rfl (R_assign rfl rfl) ?_
    refine WL_nil ?_
    refine WQ_code ?_
    refine WC_seq ?_
    refine WC_region ?_
    refine WL_val rfl rfl rfl (R_move rfl rfl) ?_
    refine WL_val rfl rfl rfl (R_neq rfl rfl rfl) ?_
    refine WL_nil ?_
    refine WQ_code ?_
    refine WC_dF rfl (by simp) ?_
    refine WC_skip ?_
    refine WQ_code ?_
    refine WC_seq ?_
    refine WC_region ?_
    refine WL_val rfl rfl rfl (R_load rfl sc23 rfl (mmZ) rfl) ?_
    refine WL_val rfl rfl rfl (R_load rfl sc28 rfl (mmZ) rfl) ?_
    refine WL_val rfl rfl rfl (R_nilCheck rfl rfl) ?_
    refine WL_val rfl rfl rfl (R_fieldAddr rfl fa71_3 rfl) ?_
    refine WL_do0 rfl rfl (D_store (vs := [_]) rfl Try.sizeOf28 rfl rfl rfl rfl rfl (plZ) (by exact pc_nowr m s)) ?_
    rintro _ _ rfl
    rw [pc_now]
    obtain ⟨_, hle, hnm⟩ := may_zero hm
    have h0 := h.at_ (now := now) hle (by omega)
    refine WL_nil ?_
    refine WQ_code ?_
    refine WC_seq ?_
    refine WC_region ?_
    refine WL_val rfl rfl rfl (R_load rfl sc23 rfl (mmZ) rfl) ?_
    refine WL_val rfl rfl rfl (R_nilCheck rfl rfl) ?_
    refine WL_val rfl rfl rfl (R_fieldAddr rfl fa71_6 rfl) ?_
    refine WL_val rfl rfl rfl (R_load (v := .map (some m.wm)) rfl sc69 rfl (mmZ) (pc_t h.cl rfl 1)) ?_
    refine WL_do rfl rfl rfl (D_call (wkeys_ok m.wm) rfl rfl rfl rfl (pqZ)) ?_
    rintro _ _ ⟨_, ⟨bb, rfl, rfl⟩, rfl⟩
    refine WL_do rfl rfl rfl (D_call (wcoll_ok (W := wq s.Q) (by rw [List.length_map]; exact hql) bb m.wm m.wes m.wmc h.wM) rfl rfl rfl rfl (pqZ)) ?_
    rintro _ _ ⟨_, ⟨xs, o9, c9, tl9, hperm, rfl, own9, rfl⟩, rfl⟩
    refine WL_val rfl rfl rfl (R_makeFunc rfl rfl rfl) ?_
    have hxl : xs.length ≤ 1001 := by have := hperm.length_eq; rw [List.length_map, List.length_map] at this; omega
    refine WL_do rfl rfl rfl (D_call (delf_ok xs o9 c9 tl9 own9 49 [.pointer (some ⟨b1, 0, none⟩), .pointer (some ⟨b2, 0, none⟩)] [⟨some b1, cl [ptrP m.p] 23⟩, ⟨some b2, cl [.int .u64 (now : Int)] 28⟩, poP m (s.at_ now), poW m] (keepW s.Q now) (fun v _ => padv1_ok h0 b1 b2 now v) (by omega)) rfl rfl rfl rfl (pqZ)) ?_
    rintro _ _ ⟨_, ⟨n2, tl2, rfl, rfl, own2, rfl⟩, rfl⟩
    refine WL_val rfl rfl rfl (R_assign rfl rfl) ?_
    refine WL_nil ?_
    refine WQ_code ?_
    refine WC_seq ?_
    refine WC_region ?_
    refine WL_val rfl rfl rfl (R_move rfl rfl) ?_
    refine WL_val rfl rfl rfl (R_makeFunc rfl rfl rfl) ?_
    refine WL_do rfl rfl rfl (D_call (psort_ok h0 b1 (xs.filter (fun v => !keepW s.Q now v)) (by have := List.length_filter_le (fun v => !keepW s.Q now v) xs; omega) o9 c9 tl2 own2) rfl rfl rfl rfl (pqZ)) ?_
    rintro _ _ ⟨_, ⟨ys, rfl, hp2, hs2, rfl⟩, rfl⟩
    have hys : ys = (s.late now).map (·.who) := late_eq h hnm hperm hp2 hs2
    have hyl : (xs.filter (fun v => !keepW s.Q now v)).length = ((s.late now).map (·.who)).length := by rw [← hys]; exact hp2.length_eq.symm
    subst hys
    rw [hyl]
    refine WL_nil ?_
    refine WQ_code ?_
    refine WC_seq ?_
    refine WC_seq ?_
    refine WC_region ?_
    refine WL_val rfl rfl rfl (R_move rfl rfl) ?_
    refine WL_val rfl rfl rfl (R_len rfl Try.underlying78 rfl) ?_
    refine WL_val rfl rfl rfl (R_move rfl rfl) ?_
    refine WL_nil ?_
    refine WQ_code ?_
    refine WC_block ?_
    refine WC_loopF (G := AdW) [9, 41, 42, 43, 44, 45, 46, 47, 48, 49, 50, 51] (fun y => y.k ≤ (s.late now).length ∧ PIs y.m (((s.late now).take y.k).foldl PS.tmo (s.at_ now)) ∧ y.m.p = m.p) (fun y => [(41, .int .i64 (y.k : Int))]) (fun y => poH y.m (((s.late now).take y.k).foldl PS.tmo (s.at_ now))) (fun y => (s.late now).length - y.k) (⟨0, m⟩) (⟨Nat.zero_le _, h0, rfl⟩) leZ (pqZ) ?_
    rintro y ⟨hk, hy, hyp⟩
    rw [← hyp]
    have hEk := (tmo_rest ((s.late now).take y.k) (s.at_ now)).2.2.2.1
    rw [List.length_take, show (s.at_ now).E = s.E from rfl] at hEk
    refine WC_seq ?_
    refine WC_region ?_
    refine WL_val rfl rfl rfl (R_lss rfl rfl rfl) ?_
    refine WL_nil ?_
    refine WQ_code ?_
    refine WC_seq ?_
    refine WC_dec rfl (fun c2 => ?_) (fun c2 => ?_)
    · refine WC_skip ?_
      refine WQ_code ?_
      refine WC_seq ?_
      refine WC_block ?_
      refine WC_seq ?_
      refine WC_region ?_
      obtain ⟨wa, hwa⟩ := own2.some_of (by omega)
      obtain ⟨x, hx⟩ := getE (T := s.late now) (i := y.k) (by omega)
      obtain ⟨A, B, hQ⟩ := tmo_in h.nd hx (s.at_ now) rfl
      refine WL_val rfl rfl rfl (R_idxO hwa rfl Try.underlying78 Try.sizeOf3 rfl rfl (by omega)) ?_
      refine WL_val rfl rfl rfl (R_loadO (v := .int .i64 x.who) hwa rfl sc3 rfl (mmZ) (fm_get0 encI1 (show ((s.late now).map (·.who))[y.k]? = some x.who by rw [List.getElem?_map, hx]; rfl) (j := 0) (by omega))) ?_
      refine WL_val rfl rfl rfl (R_assign rfl rfl) ?_
      refine WL_nil ?_
      refine WQ_code ?_
      refine WC_seq ?_
      refine WC_region ?_
      refine WL_val rfl rfl rfl (R_load rfl sc23 rfl (mmZ) rfl) ?_
      refine WL_val rfl rfl rfl (R_move rfl rfl) ?_
      refine WL_do rfl rfl rfl (D_call (pleave_ok hy hQ) rfl rfl rfl rfl (pqZ)) ?_
      rintro _ _ ⟨_, ⟨m1, rfl, rfl, hp1, h1⟩, rfl⟩
      rw [← hp1]
      refine WL_nil ?_
      refine WQ_code ?_
      refine WC_region ?_
      refine WL_val rfl rfl rfl (R_load rfl sc23 rfl (mmZ) rfl) ?_
      refine WL_val rfl rfl rfl (R_move rfl rfl) ?_
      refine WL_do rfl rfl rfl (D_call (ptellH_ok h1 4 x.who (-1) (show (((s.late now).take y.k).foldl PS.tmo (s.at_ now)).E.length ≤ 1000000 by omega)) rfl rfl rfl rfl (pqZ)) ?_
      rintro _ _ ⟨_, ⟨m2, rfl, rfl, hp2m, h2m⟩, rfl⟩
      refine WL_nil ?_
      refine WQ_code ?_
      refine WC_region ?_
      refine WL_val rfl rfl rfl (R_add rfl rfl rfl (by omega)) ?_
      refine WL_val rfl rfl rfl (R_move rfl rfl) ?_
      refine WL_nil ?_
      rw [show ((((s.late now).take y.k).foldl PS.tmo (s.at_ now)).leave x.who).tell 4 x.who (-1) = ((s.late now).take (y.k + 1)).foldl PS.tmo (s.at_ now) from (qp_next hx _).symm]
      refine WQ_nextF (⟨y.k + 1, m2⟩) (⟨by dsimp only; omega, by dsimp only; rw [qp_next hx]; exact h2m, by first | rfl | exact hp2m⟩) (by dsimp only; omega) leZ (psZ) rfl (pqZ)
    · have hkl : y.k = (s.late now).length := by omega
      have hst : ((s.late now).take y.k).foldl PS.tmo (s.at_ now) = s.adv1 now := by rw [hkl, List.take_length]; rfl
      rw [hst]
      rw [hst] at hy
      have hC1 : (s.adv1 now).C = s.C := (tmo_rest (s.late now) (s.at_ now)).1
      have hN1 : (s.adv1 now).now = now := (tmo_rest (s.late now) (s.at_ now)).2.2.1
      have hE1 : (s.adv1 now).E.length = s.E.length + (s.late now).length := (tmo_rest (s.late now) (s.at_ now)).2.2.2.1
      refine WC_exit ?_
      refine WQ_code ?_
      refine WC_seq ?_
      refine WC_region ?_
      refine WL_val rfl rfl rfl (R_load rfl sc23 rfl (mmZ) rfl) ?_
      refine WL_do rfl rfl rfl (D_call (pall_ok hy 3) rfl rfl rfl rfl (pqZ)) ?_
      rintro _ _ ⟨_, ⟨o8, c8, tl8, rfl, own8, rfl⟩, rfl⟩
      refine WL_val rfl rfl rfl (R_makeFunc rfl rfl rfl) ?_
      refine WL_do rfl rfl rfl (D_call (delf_ok (allI 3 (s.adv1 now).C) o8 c8 tl8 own8 54 [.pointer (some ⟨b1, 0, none⟩), .pointer (some ⟨b2, 0, none⟩)] [⟨some b1, cl [ptrP y.m.p] 23⟩, ⟨some b2, cl [.int .u64 (now : Int)] 28⟩, poP y.m (s.adv1 now)] (young (s.adv1 now) now) (fun v hv => padv3_ok hy b1 b2 now (by rw [hN1]; exact Nat.le_refl _) hb v hv) (by have := allI_len 3 (s.adv1 now).C; rw [hy.cl] at this; omega)) rfl rfl rfl rfl (pqZ)) ?_
      rintro _ _ ⟨_, ⟨n3, tl3, rfl, rfl, own3, rfl⟩, rfl⟩
      refine WL_val rfl rfl rfl (R_assign rfl rfl) ?_
      refine WL_nil ?_
      refine WQ_code ?_
      refine WC_seq ?_
      refine WC_region ?_
      refine WL_val rfl rfl rfl (R_move rfl rfl) ?_
      refine WL_val rfl rfl rfl (R_makeFunc rfl rfl rfl) ?_
      refine WL_do rfl rfl rfl (D_call (stabf_ok ((allI 3 (s.adv1 now).C).filter (fun v => !young (s.adv1 now) now v)) o8 c8 tl3 own3 56 [.pointer (some ⟨b1, 0, none⟩)] [⟨some b1, cl [ptrP y.m.p] 23⟩, poP y.m (s.adv1 now)] (ageC (s.adv1 now).C) (fun a ha b hb => padv4_ok hy b1 a b (List.mem_filter.1 ha).1 (List.mem_filter.1 hb).1) (by have := List.length_filter_le (fun v => !young (s.adv1 now) now v) (allI 3 (s.adv1 now).C); rw [hC1] at this ⊢; unfold PS.cnt at h19; omega)) rfl rfl rfl rfl (pqZ)) ?_
      rintro _ _ ⟨_, ⟨rfl, rfl⟩, rfl⟩
      rw [old_eq]
      have hol3 : ((allI 3 (s.adv1 now).C).filter (fun v => !young (s.adv1 now) now v)).length = ((s.adv1 now).old now).length := (List.mergeSort_perm _ _).length_eq.symm
      rw [hol3]
      refine WL_nil ?_
      refine WQ_code ?_
      refine WC_seq ?_
      refine WC_seq ?_
      refine WC_region ?_
      refine WL_val rfl rfl rfl (R_move rfl rfl) ?_
      refine WL_val rfl rfl rfl (R_len rfl Try.underlying78 rfl) ?_
      refine WL_val rfl rfl rfl (R_move rfl rfl) ?_
      refine WL_nil ?_
      refine WQ_code ?_
      refine WC_block ?_
      have hol := old_len (s.adv1 now) now
      have hal := allI_len 3 (s.adv1 now).C
      rw [hy.cl] at hal
      refine WC_loopF (G := AdW) [12, 61, 62, 63, 64, 65, 66, 67, 68, 69, 70, 71] (fun z => z.k ≤ ((s.adv1 now).old now).length ∧ PIs z.m ((((s.adv1 now).old now).take z.k).foldl PS.shut (s.adv1 now)) ∧ z.m.p = y.m.p) (fun z => [(61, .int .i64 (z.k : Int))]) (fun z => poH z.m ((((s.adv1 now).old now).take z.k).foldl PS.shut (s.adv1 now))) (fun z => ((s.adv1 now).old now).length - z.k) (⟨0, y.m⟩) (⟨Nat.zero_le _, hy, rfl⟩) leZ (pqZ) ?_
      rintro z ⟨hzk, hz, hzp⟩
      rw [← hzp]
      have hEz := shuts_E (((s.adv1 now).old now).take z.k) (s.adv1 now)
      rw [List.length_take] at hEz
      refine WC_seq ?_
      refine WC_region ?_
      refine WL_val rfl rfl rfl (R_lss rfl rfl rfl) ?_
      refine WL_nil ?_
      refine WQ_code ?_
      refine WC_seq ?_
      refine WC_dec rfl (fun c3 => ?_) (fun c3 => ?_)
      · refine WC_skip ?_
        refine WQ_code ?_
        refine WC_seq ?_
        refine WC_block ?_
        refine WC_seq ?_
        refine WC_region ?_
        obtain ⟨wb, hwb⟩ := own3.some_of (by omega)
        obtain ⟨c, hc⟩ := getE (T := (s.adv1 now).old now) (i := z.k) (by omega)
        obtain ⟨i9, x9, rfl, hx9, _⟩ := allI_mem (old_mem (List.mem_of_getElem? hc)).1
        have hi64 : i9 < 64 := by have := (List.getElem?_eq_some_iff.1 hx9).1; rw [hy.cl] at this; exact this
        have hsh := (pshut_eq ((((s.adv1 now).old now).take z.k).foldl PS.shut (s.adv1 now)) i9).symm
        refine WL_val rfl rfl rfl (R_idxO hwb rfl Try.underlying78 Try.sizeOf3 rfl rfl (by omega)) ?_
        refine WL_val rfl rfl rfl (R_loadO (v := .int .i64 (i9 : Int)) hwb rfl sc3 rfl (mmZ) (fm_get0 encI1 hc (j := 0) (by omega))) ?_
        refine WL_val rfl rfl rfl (R_assign rfl rfl) ?_
        refine WL_nil ?_
        refine WQ_code ?_
        refine WC_seq ?_
        refine WC_region ?_
        refine WL_val rfl rfl rfl (R_load rfl sc23 rfl (mmZ) rfl) ?_
        refine WL_val rfl rfl rfl (R_move rfl rfl) ?_
        refine WL_do rfl rfl rfl (D_call (ptellH_ok hz 5 (-1) (i9 : Int) (by omega)) rfl rfl rfl rfl (pqZ)) ?_
        rintro _ _ ⟨_, ⟨m3, rfl, rfl, hp3, h3m⟩, rfl⟩
        rw [← hp3]
        refine WL_nil ?_
        refine WQ_code ?_
        refine WC_region ?_
        refine WL_val rfl rfl rfl (R_load rfl sc23 rfl (mmZ) rfl) ?_
        refine WL_val rfl rfl rfl (R_move rfl rfl) ?_
        refine WL_do rfl rfl rfl (D_call (plose_ok h3m i9 (by omega) (by show (_ ++ [_]).length ≤ _; rw [List.length_append]; simp; omega)) rfl rfl rfl rfl (pqZ)) ?_
        rintro _ _ ⟨_, ⟨m2, rfl, rfl, hp2, h2⟩, rfl⟩
        refine WL_nil ?_
        refine WQ_code ?_
        refine WC_region ?_
        refine WL_val rfl rfl rfl (R_add rfl rfl rfl (by omega)) ?_
        refine WL_val rfl rfl rfl (R_move rfl rfl) ?_
        refine WL_nil ?_
        rw [hsh, ← shut_next hc]
        refine WQ_nextF (⟨z.k + 1, m2⟩) (⟨by dsimp only; omega, by dsimp only; rw [shut_next hc, ← hsh]; exact h2, by first | rfl | exact hp2⟩) (by dsimp only; omega) leZ (psZ) rfl (pqZ)
      · have hzl : z.k = ((s.adv1 now).old now).length := by omega
        refine WC_exit ?_
        refine WQ_code ?_
        refine WC_seq ?_
        refine WC_region ?_
        refine WL_val rfl rfl rfl (R_assign rfl rfl) ?_
        refine WL_nil ?_
        refine WQ_code ?_
        refine WC_ret ?_
        rw [hzl, List.take_length] at hz
        rw [hzl, List.take_length]
        refine WQ_ret rfl rfl (.cons (.tmp rfl) .nil) rfl (by
            exact ⟨z.m, congrArg (Value.int .i64) hm.symm, by rw [adv_ok hm], by first | rfl | exact hzp, by rw [adv_ok hm]; exact hz⟩) (pqZ)
end Go.Proofs.Yteofigbgdbpjgaa
end
section
set_option linter.unusedVariables false
namespace Go.Proofs.Yteofigbgdbpjgaa
/-- Cells that are known: block, place, value. -/
def PtW (ps : List (Nat × Nat × Value)) (w : World) : Prop := ∀ t ∈ ps, ∃ cs e, w.heap[t.1]? = some (cl cs e) ∧ cs[t.2.1]? = some t.2.2
inductive PtH (H : Heap) : List (Nat × Nat × Value) → Prop
  | nil : PtH H []
  | cons {b j : Nat} {v : Value} {cs : List Value} {e : TypeId} {ps : List (Nat × Nat × Value)} : (⟨some b, cl cs e⟩ : Ent) ∈ H → cs[j]? = some v → PtH H ps → PtH H ((b, j, v) :: ps)
theorem PtH.here {H H0 : Heap} {w0 w : World} {ps : List (Nat × Nat × Value)} (h : PtH H ps) (hw : HW H0 w0 H w) : PtW ps w := by
  induction h with
  | nil => intro t ht; cases ht
  | cons h1 h2 _ ih =>
    intro t ht
    rcases List.mem_cons.1 ht with rfl | ht
    · exact ⟨_, _, hw.hok.ok _ h1, h2⟩
    · exact ih t ht
theorem PtW.bel {ps : List (Nat × Nat × Value)} {w w' : World} (h : PtW ps w) (hb : Bel w w') : PtW ps w' := fun t ht => by
  obtain ⟨cs, e, h1, h2⟩ := h t ht
  exact ⟨cs, e, by rw [hb.block _ (Array.getElem?_eq_some_iff.1 h1).1]; exact h1, h2⟩
abbrev CX (X : Ctx) (ps : List (Nat × Nat × Value)) (Hq : Heap) (w : World) : Prop := HW X.H0 X.w0 Hq w ∧ PtW ps w
section
variable {X : Ctx} {ops : Array Oper} {p : Post} {Hq : Heap} {E : Env} {H F : Heap} {r : List (Nat × Tag)} {i : Nat} {o : Oper} {B : List Nat} {ps : List (Nat × Nat × Value)}
end
end Go.Proofs.Yteofigbgdbpjgaa
end
section
set_option linter.unusedVariables false
namespace Go.Proofs.Yteofigbgdbpjgaa
open Go.RowKit (Below)
section
variable (X : Ctx) (ops : Array Oper) (p : Post) (C C1 : World → Prop) (N : List Nat)
def AnyK : Nat → Array Bool → Act → World → Prop
  | 0, listed, a, w => Region.ready .any ops listed = [] ∧ p.nrm a w
  | fuel + 1, listed, a, w => (Region.ready .any ops listed = [] → p.nrm a w) ∧
    ∀ i ∈ Region.ready .any ops listed, wpOpIn (fen X.ro) 0 X.P ops p.toQ i (fun a' w' => C w' ∧ (N.contains i = false → C1 w → C1 w') ∧ ∀ w'', Bel w' w'' → AnyK fuel (listed.setIfInBounds i true) a' w'') a w
end
section
variable {X : Ctx} {ops : Array Oper} {p : Post} {C C1 : World → Prop} {N : List Nat}
theorem AnyK.sound : ∀ (fuel : Nat) (listed : Array Bool) (a : Act) (w : World), AnyK X ops p C C1 N fuel listed a w → wpAnyIn (fen X.ro) 0 X.P .any ops p.toQ fuel listed a w
  | 0, _, _, _, h => h
  | fuel + 1, _, _, _, h => ⟨h.1, fun i hi => wpOpIn_mono (fun a' w' k => AnyK.sound fuel _ a' w' (k.2.2 w' (Bel.refl _))) (h.2 i hi)⟩
/-- A quiet operation, of any world in C. -/
theorem AnyK.take {i : Nat} {oi : Oper} {v : Value} (h1b : ∀ w w', C1 w → Bel w w' → C1 w') (hCb : ∀ w w', C w → Bel w w' → C w') (hi : ops[i]? = some oi) (hsd : noSD ops = true) :
    ∀ (fuel : Nat) (listed : Array Bool) (a : Act) (w : World),
      (∀ j oj, ops[j]? = some oj → j ≠ i → listed.getD j true = false → (∀ e ∈ oj.after, Region.binds .any e = true → e.on ≠ i) → oi.apart ops oj = true) →
      i ∈ Region.ready .any ops listed → YieldsC X ops C oi v a → C w →
      (∀ w', Bel w w' → AnyK X ops p C C1 N fuel (listed.setIfInBounds i true) (a.put oi.dst v) w') → AnyK X ops p C C1 N (fuel + 1) listed a w := by
  intro fuel
  induction fuel with
  | zero =>
    intro listed a w _ hr hy hC H
    refine ⟨fun h => (by rw [h] at hr; cases hr), fun j hj => ?_⟩
    by_cases hji : j = i
    · subst hji
      exact hy.wpOp hi (noSD_sel hsd hi).2 hC fun w' hb => ⟨hCb w w' hC hb, fun _ h => h1b _ _ h hb, fun w'' hb' => H w'' (hb.trans' hb')⟩
    · have := ready_mono hj hji
      rw [(H w (Bel.refl _)).1] at this
      cases this
  | succ fuel ih =>
    intro listed a w hfree hr hy hC H
    refine ⟨fun h => (by rw [h] at hr; cases hr), fun j hj => ?_⟩
    by_cases hji : j = i
    · subst hji
      exact hy.wpOp hi (noSD_sel hsd hi).2 hC fun w' hb => ⟨hCb w w' hC hb, fun _ h => h1b _ _ h hb, fun w'' hb' => H w'' (hb.trans' hb')⟩
    · have h1 := (H w (Bel.refl _)).2 j (ready_mono hj hji)
      obtain ⟨hjun, oj, hoj, hall⟩ := mem_ready.1 hj
      have hnot : ∀ e ∈ oj.after, Region.binds .any e = true → e.on ≠ i := fun e he hb heq => by
        have h1 := hall e he hb
        have h0 := (mem_ready.1 hr).1
        rw [heq] at h1
        rcases Nat.lt_or_ge i listed.size with h' | h'
        · simp [h'] at h0 h1; rw [h0] at h1; cases h1
        · simp [Array.getElem?_eq_none h'] at h1
      have h2 := wpOpIn_putC hoj (hfree j oj hoj hji hjun hnot) (noSD_sel hsd hi).1 (noSD_sel hsd hoj).1 (noSD_sel hsd hoj).2 hy h1
      have hfree' : ∀ k ok, ops[k]? = some ok → k ≠ i → (listed.setIfInBounds j true).getD k true = false →
          (∀ e ∈ ok.after, Region.binds .any e = true → e.on ≠ i) → oi.apart ops ok = true := fun k ok hk hki hun hno => by
        refine hfree k ok hk hki ?_ hno
        by_cases hjk : j = k
        · subst hjk; exact hjun
        · rw [getD_set_ne true hjk] at hun; exact hun
      refine wpOpIn_mono (fun a' w' h3 => ⟨h3.2.1, h3.2.2.1, fun w'' hb => ?_⟩) h2
      refine ih (listed.setIfInBounds j true) a' w'' hfree' (ready_mono hr (Ne.symm hji)) h3.1 (hCb _ _ h3.2.1 hb) fun w3 hb3 => ?_
      rw [Array.setIfInBounds_comm _ _ hji]
      exact h3.2.2.2 w3 (hb.trans' hb3)
/-- A quiet operation that all that turns something waits for: of any world in C1. -/
theorem AnyK.take1 {i : Nat} {oi : Oper} {v : Value} (h1b : ∀ w w', C1 w → Bel w w' → C1 w') (h1C : ∀ w, C1 w → C w) (hi : ops[i]? = some oi) (hsd : noSD ops = true)
    (hN : ∀ j oj, N.contains j = true → ops[j]? = some oj → ∃ n, reach ops i n j = true) :
    ∀ (fuel : Nat) (listed : Array Bool) (a : Act) (w : World), Closed ops listed →
      (∀ j oj, ops[j]? = some oj → j ≠ i → listed.getD j true = false → (∀ e ∈ oj.after, Region.binds .any e = true → e.on ≠ i) → oi.apart ops oj = true) →
      i ∈ Region.ready .any ops listed → YieldsC X ops C1 oi v a → C1 w →
      (∀ w', Bel w w' → AnyK X ops p C C1 N fuel (listed.setIfInBounds i true) (a.put oi.dst v) w') → AnyK X ops p C C1 N (fuel + 1) listed a w := by
  intro fuel
  induction fuel with
  | zero =>
    intro listed a w _ _ hr hy hC H
    refine ⟨fun h => (by rw [h] at hr; cases hr), fun j hj => ?_⟩
    by_cases hji : j = i
    · subst hji
      exact hy.wpOp hi (noSD_sel hsd hi).2 hC fun w' hb => ⟨h1C _ (h1b w w' hC hb), fun _ h => h1b _ _ h hb, fun w'' hb' => H w'' (hb.trans' hb')⟩
    · have := ready_mono hj hji
      rw [(H w (Bel.refl _)).1] at this
      cases this
  | succ fuel ih =>
    intro listed a w hcl hfree hr hy hC H
    refine ⟨fun h => (by rw [h] at hr; cases hr), fun j hj => ?_⟩
    by_cases hji : j = i
    · subst hji
      exact hy.wpOp hi (noSD_sel hsd hi).2 hC fun w' hb => ⟨h1C _ (h1b w w' hC hb), fun _ h => h1b _ _ h hb, fun w'' hb' => H w'' (hb.trans' hb')⟩
    · have h1 := (H w (Bel.refl _)).2 j (ready_mono hj hji)
      obtain ⟨hjun, oj, hoj, hall⟩ := mem_ready.1 hj
      have hnot : ∀ e ∈ oj.after, Region.binds .any e = true → e.on ≠ i := fun e he hb heq => by
        have h1 := hall e he hb
        have h0 := (mem_ready.1 hr).1
        rw [heq] at h1
        rcases Nat.lt_or_ge i listed.size with h' | h'
        · simp [h'] at h0 h1; rw [h0] at h1; cases h1
        · simp [Array.getElem?_eq_none h'] at h1
      have hjN : N.contains j = false := by
        cases hc : N.contains j with
        | false => rfl
        | true =>
          obtain ⟨n, hn⟩ := hN j oj hc hoj
          have h8 := hcl.reach i n j oj hoj (fun e he hb => getD_up (hall e he hb)) hn
          have h9 := (mem_ready.1 hr).1
          rw [h8] at h9; cases h9
      have h2 := wpOpIn_putC hoj (hfree j oj hoj hji hjun hnot) (noSD_sel hsd hi).1 (noSD_sel hsd hoj).1 (noSD_sel hsd hoj).2 hy h1
      have hfree' : ∀ k ok, ops[k]? = some ok → k ≠ i → (listed.setIfInBounds j true).getD k true = false →
          (∀ e ∈ ok.after, Region.binds .any e = true → e.on ≠ i) → oi.apart ops ok = true := fun k ok hk hki hun hno => by
        refine hfree k ok hk hki ?_ hno
        by_cases hjk : j = k
        · subst hjk; exact hjun
        · rw [getD_set_ne true hjk] at hun; exact hun
      refine wpOpIn_mono (fun a' w' h3 => ⟨h3.2.1, h3.2.2.1, fun w'' hb => ?_⟩) h2
      refine ih (listed.setIfInBounds j true) a' w'' (hcl.step hj) hfree' (ready_mono hr (Ne.symm hji)) h3.1 (h1b _ _ (h3.2.2.1 hjN hC) hb) fun w3 hb3 => ?_
      rw [Array.setIfInBounds_comm _ _ hji]
      exact h3.2.2.2 w3 (hb.trans' hb3)
/-- The second part: '(i, true)': quiet; '(i, false)': turns something. -/
def MK (X : Ctx) (ops : Array Oper) (p : Post) (C1 C : World → Prop) (N : List Nat) : List (Nat × Bool) → Act → World → Prop
  | [], a, w => p.nrm a w
  | (i, true) :: r, a, w => ∃ o v, ops[i]? = some o ∧ YieldsC X ops C o v a ∧ ∀ w', Bel w w' → MK X ops p C1 C N r (a.put o.dst v) w'
  | (i, false) :: r, a, w => wpOpIn (fen X.ro) 0 X.P ops p.toQ i (fun a' w' => C w' ∧ (N.contains i = false → C1 w → C1 w') ∧ ∀ w'', Bel w' w'' → MK X ops p C1 C N r a' w'') a w
theorem MK.anyK (h1b : ∀ w w', C1 w → Bel w w' → C1 w') (hCb : ∀ w w', C w → Bel w w' → C w') (hsd : noSD ops = true) : ∀ (l : List (Nat × Bool)) (listed : Array Bool) (a : Act) (w : World), orderB ops l listed = true → C w → MK X ops p C1 C N l a w →
    AnyK X ops p C C1 N l.length listed a w
  | [], listed, a, w, hB, _, h => ⟨by simpa [orderB] using hB, h⟩
  | (i, true) :: r, listed, a, w, hB, hC, h => by
    simp only [orderB, cond_true, Bool.and_eq_true, List.contains_iff_mem] at hB
    obtain ⟨⟨h1, h2⟩, h3⟩ := hB
    obtain ⟨o, v, ho, hy, hk⟩ := h
    exact AnyK.take h1b hCb ho hsd r.length listed a w (Region.free_spec ho h2) h1 hy hC fun w' hb => MK.anyK h1b hCb hsd r _ _ w' h3 (hCb w w' hC hb) (hk w' hb)
  | (i, false) :: r, listed, a, w, hB, hC, h => by
    simp only [orderB, cond_false, Bool.and_eq_true, beq_iff_eq] at hB
    obtain ⟨h1, h3⟩ := hB
    refine ⟨fun e => (by rw [h1] at e; cases e), fun j hj => ?_⟩
    rw [h1, List.mem_singleton] at hj
    subst hj
    exact wpOpIn_mono (fun a' w' hk => ⟨hk.1, hk.2.1, fun w'' hb => MK.anyK h1b hCb hsd r _ _ w'' h3 (hCb _ _ hk.1 hb) (hk.2.2 w'' hb)⟩) h
/-- The first part: '(i, true)' reads memory ars it was; '(i, false)': quiet in any world. -/
def MY (X : Ctx) (ops : Array Oper) (p : Post) (C1 C : World → Prop) (N : List Nat) (r : List (Nat × Bool)) : List (Nat × Bool) → Act → World → Prop
  | [], a, w => MK X ops p C1 C N r a w
  | (i, true) :: es, a, w => ∃ o v, ops[i]? = some o ∧ YieldsC X ops C1 o v a ∧ ∀ w', Bel w w' → MY X ops p C1 C N r es (a.put o.dst v) w'
  | (i, false) :: es, a, w => ∃ o v, ops[i]? = some o ∧ YieldsC X ops C o v a ∧ ∀ w', Bel w w' → MY X ops p C1 C N r es (a.put o.dst v) w'
theorem MY.anyK (r : List (Nat × Bool)) (h1b : ∀ w w', C1 w → Bel w w' → C1 w') (h1C : ∀ w, C1 w → C w) (hCb : ∀ w w', C w → Bel w w' → C w') (hsd : noSD ops = true) :
    ∀ (es : List (Nat × Bool)) (listed : Array Bool) (a : Act) (w : World), Closed ops listed → orderE ops N r es listed = true → C1 w → MY X ops p C1 C N r es a w → AnyK X ops p C C1 N (es.length + r.length) listed a w
  | [], listed, a, w, _, hB, hC, h => by
    simp only [List.length_nil, Nat.zero_add]
    exact MK.anyK h1b hCb hsd r listed a w hB (h1C w hC) h
  | (i, true) :: es, listed, a, w, hcl, hB, hC, h => by
    simp only [orderE, Bool.and_eq_true, List.contains_iff_mem, Bool.not_true, Bool.false_or] at hB
    obtain ⟨⟨⟨h1, h2⟩, h3⟩, h4⟩ := hB
    obtain ⟨o, v, ho, hy, hk⟩ := h
    rw [show ((i, true) :: es).length + r.length = (es.length + r.length) + 1 from by simp only [List.length_cons]; omega]
    exact AnyK.take1 h1b h1C ho hsd (waitsFor_spec h3) _ listed a w hcl (Region.free_spec ho h2) h1 hy hC fun w' hb => MY.anyK r h1b h1C hCb hsd es _ _ w' (hcl.step h1) h4 (h1b w w' hC hb) (hk w' hb)
  | (i, false) :: es, listed, a, w, hcl, hB, hC, h => by
    simp only [orderE, Bool.and_eq_true, List.contains_iff_mem] at hB
    obtain ⟨⟨⟨h1, h2⟩, _⟩, h4⟩ := hB
    obtain ⟨o, v, ho, hy, hk⟩ := h
    rw [show ((i, false) :: es).length + r.length = (es.length + r.length) + 1 from by simp only [List.length_cons]; omega]
    exact AnyK.take h1b hCb ho hsd _ listed a w (Region.free_spec ho h2) h1 hy (h1C w hC) fun w' hb => MY.anyK r h1b h1C hCb hsd es _ _ w' (hcl.step h1) h4 (h1b w w' hC hb) (hk w' hb)
end
/-- The walk over states, first part. -/
def WYE (X : Ctx) (ops : Array Oper) (p : Post) (ps : List (Nat × Nat × Value)) (Hq : Heap) (N : List Nat) (r es : List (Nat × Bool)) (E : Env) (H : Heap) : Prop := ∀ a w, AE X E a → HW X.H0 X.w0 H w → MY X ops p (CX X ps Hq) (fun w => HW X.H0 X.w0 Hq w) N r es a w
def WY (X : Ctx) (ops : Array Oper) (p : Post) (ps : List (Nat × Nat × Value)) (Hq : Heap) (N : List Nat) (r : List (Nat × Bool)) (E : Env) (H : Heap) : Prop := ∀ a w, AE X E a → HW X.H0 X.w0 H w → MK X ops p (CX X ps Hq) (fun w => HW X.H0 X.w0 Hq w) N r a w
section
variable {X : Ctx} {ops : Array Oper} {p : Post} {Hq : Heap} {E : Env} {H F : Heap} {r es : List (Nat × Bool)} {i : Nat} {o : Oper} {ps : List (Nat × Nat × Value)} {N : List Nat}
theorem WC_drawY {id : Nat} {l : List Oper} (xs : Heap) (ps : List (Nat × Nat × Value)) (N : List Nat) (es ord : List (Nat × Bool)) (hm : X.P.follows .mixedOrders = true) (hsd : noSD l.toArray = true) (hlen : es.length + ord.length = l.length)
    (hB : orderE l.toArray N ord es (Array.replicate l.length false) = true) (hq : Pulls xs H Hq) (hp : PtH H ps) (h : WYE X l.toArray p ps Hq N ord es E H) : WC X (.region id l.toArray true) p E H := by
  intro a w ha hw
  refine wpIn_region_any hm ?_
  have hb : Bel w { w with drawn := w.drawn + 1 } := Bel.drew' w
  have hw1 := hw.bel hb
  have h1 := MY.anyK (X := X) (p := p) (N := N) (C1 := CX X ps Hq) (C := fun w => HW X.H0 X.w0 Hq w) ord (fun _ _ h b => ⟨h.1.bel b, h.2.bel b⟩) (fun _ h => h.1) (fun _ _ h b => h.bel b) hsd es _ a _ (closed0 l) hB ⟨pulls_rest hq hw1, hp.here hw1⟩ (h a _ ha hw1)
  rw [hlen] at h1
  have := AnyK.sound _ _ _ _ h1
  simpa using this
theorem WYE_rest (h : WY X ops p ps Hq N r E H) : WYE X ops p ps Hq N r [] E H := h
/-- A load of a cell that is known. -/
theorem WYE_early {d : Nat} {t : TypeId} {x : Operand} {b j : Nat} {v : Value} (ho : ops[i]? = some o) (hg : wantedE ops E o = some true) (hd : o.dst = some d) (hN : Nat.blt d X.N = true) (hop : o.op = .load t x) (ht : Sc X.P t) (hx : ev E x = some (.pointer (some ⟨b, j, none⟩))) (hm : (b, j, v) ∈ ps)
    (k : WYE X ops p ps Hq N r es ((d, v) :: E) H) : WYE X ops p ps Hq N r ((i, true) :: es) E H := fun a w ha hw =>
  ⟨o, v, ho, .inl ⟨wantedE_spec ha hg, fun w' hw' => .inl (by
    obtain ⟨cs, e, h1, h2⟩ := hw'.2 _ hm
    have hc : w'.cell? ⟨b, j, none⟩ = some v := by simp only [World.cell?, h1, cl]; simpa using h2
    simp [execOp, hop, ha.eval hx, Instr.loadAt, Instr.sureAddr, loadVar, (ht w').1, hc])⟩, fun w' hb => k _ _ (by rw [hd]; exact ha.put d v hN) (hw.bel hb)⟩
theorem WYE_val {d : Nat} {v : Value} (ho : ops[i]? = some o) (hg : wantedE ops E o = some true) (hd : o.dst = some d) (hN : Nat.blt d X.N = true) (h : Runs X o E Hq v)
    (k : WYE X ops p ps Hq N r es ((d, v) :: E) H) : WYE X ops p ps Hq N r ((i, false) :: es) E H := fun a w ha hw =>
  ⟨o, v, ho, .inl ⟨wantedE_spec ha hg, fun w' hw' => .inl (h.2 a w' ha hw')⟩, fun w' hb => k _ _ (by rw [hd]; exact ha.put d v hN) (hw.bel hb)⟩
theorem WY_nil (h : WQ X p.nrm E H) : WY X ops p ps Hq N [] E H := h
theorem WY_val {d : Nat} {v : Value} (ho : ops[i]? = some o) (hg : wantedE ops E o = some true) (hd : o.dst = some d) (hN : Nat.blt d X.N = true) (h : Runs X o E Hq v)
    (k : WY X ops p ps Hq N r ((d, v) :: E) H) : WY X ops p ps Hq N ((i, true) :: r) E H := fun a w ha hw =>
  ⟨o, v, ho, .inl ⟨wantedE_spec ha hg, fun w' hw' => .inl (h.2 a w' ha hw')⟩, fun w' hb => k _ _ (by rw [hd]; exact ha.put d v hN) (hw.bel hb)⟩
/-- An operation that turns something, where no other may come up: 'stay': the known cells stay. -/
theorem WY_do {d : Nat} {R : Value → Heap → Prop} (ho : ops[i]? = some o) (hg : wantedE ops E o = some true) (hd : o.dst = some d) (hN : Nat.blt d X.N = true) (h : Does X o E H R)
    (k : ∀ v H', R v H' → (∃ F, Pulls Hq H' F) ∧ (N.contains i = true ∨ PtH H' ps) ∧ WY X ops p ps Hq N r ((d, v) :: E) H') : WY X ops p ps Hq N ((i, false) :: r) E H := by
  intro a w ha hw
  simp only [MK, wpOpIn, ho, wantedE_spec ha hg, if_true]
  refine h a w ha hw _ _ fun v H' w' hr hw' => ?_
  obtain ⟨⟨F, hq⟩, hs, k2⟩ := k v H' hr
  refine ⟨(hw'.perm hq.perm).left, fun hf _ => ?_, fun w'' hb => k2 _ _ (by rw [hd]; exact ha.put d v hN) (hw'.bel hb)⟩
  rcases hs with hs | hs
  · rw [hf] at hs; cases hs
  · exact ⟨(hw'.perm hq.perm).left, hs.here hw'⟩
theorem WY_do0 {R : Value → Heap → Prop} (ho : ops[i]? = some o) (hg : wantedE ops E o = some true) (hd : o.dst = none) (h : Does X o E H R)
    (k : ∀ v H', R v H' → (∃ F, Pulls Hq H' F) ∧ (N.contains i = true ∨ PtH H' ps) ∧ WY X ops p ps Hq N r E H') : WY X ops p ps Hq N ((i, false) :: r) E H := by
  intro a w ha hw
  simp only [MK, wpOpIn, ho, wantedE_spec ha hg, if_true]
  refine h a w ha hw _ _ fun v H' w' hr hw' => ?_
  obtain ⟨⟨F, hq⟩, hs, k2⟩ := k v H' hr
  refine ⟨(hw'.perm hq.perm).left, fun hf _ => ?_, fun w'' hb => k2 _ _ (by rw [hd]; exact ha.put0 v) (hw'.bel hb)⟩
  rcases hs with hs | hs
  · rw [hf] at hs; cases hs
  · exact ⟨(hw'.perm hq.perm).left, hs.here hw'⟩
end
end Go.Proofs.Yteofigbgdbpjgaa
end
section
set_option linter.unusedVariables false
set_option maxRecDepth 20000
set_option maxHeartbeats 1000000
namespace Go.Proofs.Yteofigbgdbpjgaa
theorem pnext_none {m : PM} {s : PS} (h : PIs m s) (hE : s.E = []) : Spec Try.prog 23 [ptrP m.p] (poH m s) (fun r H' => r = .tuple #[.agg #[.int .i64 0, .int .i64 0, .int .i64 0], .bool false] ∧ H' = poH m s) := by
  refine Spec.of (E := [(0, ptrP m.p)]) Try.func23 rfl (by kernel_rfl) Try.ntmps23 rfl rfl (fun w => ?_)
  refine WC_seq ?_
  refine WC_region ?_
  refine WL_do rfl rfl rfl (D_alloc rfl zv44) ?_
  rintro _ _ ⟨b1, rfl, rfl⟩
  refine WL_val rfl rfl rfl (R_assign rfl rfl) ?_
  refine WL_nil ?_
  refine WQ_code ?_
  refine WC_seq ?_
  refine WC_seq ?_
  refine WC_region ?_
  refine WL_val rfl rfl rfl (R_move rfl rfl) ?_
  refine WL_do rfl rfl rfl (D_call (pnone_ok h) rfl rfl rfl rfl (pqZ)) ?_
  rintro _ _ ⟨_, ⟨rfl, rfl⟩, rfl⟩
  refine WL_val rfl rfl rfl (R_move rfl rfl) ?_
  refine WL_val rfl rfl rfl (R_move rfl rfl) ?_
  refine WL_val rfl rfl rfl (R_nilCheck rfl rfl) ?_
  refine WL_val rfl rfl rfl (R_fieldAddr rfl fa71_7 rfl) ?_
  refine WL_val rfl rfl rfl (R_load (v := sVal m.eb m.ek s.E.length m.ec) rfl sc56 rfl (mmZ) (pc_t h.cl rfl 2)) ?_
  refine WL_val rfl rfl rfl (R_lenS rfl Try.underlying56 rfl) ?_
  refine WL_val rfl rfl rfl (R_eql rfl rfl rfl) ?_
  refine WL_val rfl rfl rfl (R_pickF rfl rfl rfl) ?_
  refine WL_nil ?_
  refine WQ_code ?_
  refine WC_dT rfl (by rw [hE]; rfl) ?_
  refine WC_seq ?_
  refine WC_region ?_
  refine WL_val rfl rfl rfl (R_build rfl zv44 pl44 rfl rfl) ?_
  refine WL_do0 rfl rfl (D_store (vs := [_, _, _]) rfl Try.sizeOf44 rfl rfl rfl rfl rfl (plZ) (by exact Nat.le_of_ble_eq_true rfl)) ?_
  rintro _ _ rfl
  refine WL_val rfl rfl rfl (R_assign rfl rfl) ?_
  refine WL_nil ?_
  refine WQ_code ?_
  refine WC_ret ?_
  refine WQ_ret rfl rfl (.cons (.cell (vs := [_, _, _]) rfl ag44 (mmZ) rfl (atZ)) (.cons (.tmp rfl) .nil)) rfl (by
      exact ⟨rfl, rfl⟩) (pqZ)
theorem pnext_some {m : PM} {s : PS} (h : PIs m s) {x : Pv} {r : List Pv} (hE : s.E = x :: r) : Spec Try.prog 23 [ptrP m.p] (poH m s) (fun v H' => ∃ m', v = .tuple #[pvV x, .bool true] ∧ H' = poH m' s.nx ∧ m'.p = m.p ∧ PIs m' s.nx) := by
  have hnx : s.nx = { s with E := r } := by unfold PS.nx; rw [hE]; rfl
  have heO := h.eO
  rw [hE] at heO
  obtain ⟨wb, hwb⟩ := heO.some_of (Nat.succ_pos _)
  have hlen : s.E.length = r.length + 1 := by rw [hE]; rfl
  rw [hnx]
  refine Spec.of (E := [(0, ptrP m.p)]) Try.func23 rfl (by kernel_rfl) Try.ntmps23 rfl rfl (fun w => ?_)
  refine WC_seq ?_
  refine WC_region ?_
  refine WL_do rfl rfl rfl (D_alloc rfl zv44) ?_
  rintro _ _ ⟨b1, rfl, rfl⟩
  refine WL_val rfl rfl rfl (R_assign rfl rfl) ?_
  refine WL_nil ?_
  refine WQ_code ?_
  refine WC_seq ?_
  refine WC_seq ?_
  refine WC_region ?_
  refine WL_val rfl rfl rfl (R_move rfl rfl) ?_
  refine WL_do rfl rfl rfl (D_call (pnone_ok h) rfl rfl rfl rfl (pqZ)) ?_
  rintro _ _ ⟨_, ⟨rfl, rfl⟩, rfl⟩
  refine WL_val rfl rfl rfl (R_move rfl rfl) ?_
  refine WL_val rfl rfl rfl (R_move rfl rfl) ?_
  refine WL_val rfl rfl rfl (R_nilCheck rfl rfl) ?_
  refine WL_val rfl rfl rfl (R_fieldAddr rfl fa71_7 rfl) ?_
  refine WL_val rfl rfl rfl (R_load (v := sVal m.eb m.ek s.E.length m.ec) rfl sc56 rfl (mmZ) (pc_t h.cl rfl 2)) ?_
  refine WL_val rfl rfl rfl (R_lenS rfl Try.underlying56 rfl) ?_
  refine WL_val rfl rfl rfl (R_eql rfl rfl rfl) ?_
  refine WL_val rfl rfl rfl (R_pickF rfl rfl rfl) ?_
  refine WL_nil ?_
  refine WQ_code ?_
  refine WC_dF rfl (by omega) ?_
  refine WC_skip ?_
  refine WQ_code ?_
  refine WC_seq ?_
  refine WC_drawY [⟨some b1, _⟩, ⟨some m.p, _⟩] [(m.p, 198, sVal m.eb m.ek s.E.length m.ec)] [15] [(0, false), (1, false), (2, false), (3, false), (4, true), (5, false), (6, false), (7, false), (8, false), (9, false), (10, true)] [(11, true), (12, false), (13, true), (14, true), (15, false)] followsMixed rfl rfl (by kernel_rfl) (pqZ) (.cons (mmZ) (pc_t h.cl rfl 2) .nil) ?_
  refine WYE_val rfl rfl rfl rfl (R_move rfl rfl) ?_
  refine WYE_val rfl rfl rfl rfl (R_move rfl rfl) ?_
  refine WYE_val rfl rfl rfl rfl (R_nilCheck rfl rfl) ?_
  refine WYE_val rfl rfl rfl rfl (R_fieldAddr rfl fa71_7 rfl) ?_
  refine WYE_early rfl rfl rfl rfl rfl sc56 rfl (by repeat (first | exact List.Mem.head _ | refine List.Mem.tail _ ?_)) ?_
  refine WYE_val rfl rfl rfl rfl (R_indexS (i := 0) hwb rfl Try.underlying56 Try.sizeOf44 rfl rfl (by omega)) ?_
  refine WYE_val rfl rfl rfl rfl (R_loadAO (vs := [.int .i64 x.k, .int .i64 x.who, .int .i64 x.c]) hwb rfl ag44 rfl (mmZ) rfl (h.eO.atE (i := 0) (x := x) (by rw [hE]; rfl) (by omega))) ?_
  refine WYE_val rfl rfl rfl rfl (R_move rfl rfl) ?_
  refine WYE_val rfl rfl rfl rfl (R_nilCheck rfl rfl) ?_
  refine WYE_val rfl rfl rfl rfl (R_fieldAddr rfl fa71_7 rfl) ?_
  refine WYE_early rfl rfl rfl rfl rfl sc56 rfl (by repeat (first | exact List.Mem.head _ | refine List.Mem.tail _ ?_)) ?_
  refine WYE_rest ?_
  refine WY_val rfl rfl rfl rfl (R_cut1 (m := r.length) hwb rfl Try.underlying56 Try.sizeOf44 rfl rfl hlen) ?_
  refine WY_do0 rfl rfl rfl (D_store (vs := [_, _, _]) rfl Try.sizeOf44 rfl rfl rfl rfl rfl (plZ) (by exact Nat.le_of_ble_eq_true rfl)) ?_
  rintro _ _ rfl
  refine ⟨⟨_, pqZ⟩, .inr (.cons (mmZ) (pc_t h.cl rfl 2) .nil), ?_⟩
  refine WY_val rfl rfl rfl rfl (R_nilCheck rfl rfl) ?_
  refine WY_val rfl rfl rfl rfl (R_fieldAddr rfl fa71_7 rfl) ?_
  refine WY_do0 rfl rfl rfl (D_store (vs := [_]) rfl Try.sizeOf56 rfl rfl rfl rfl rfl (plZ) (by exact pc_roomT h.cl rfl (j := 2) (by show 2 < 3; decide))) ?_
  rintro _ _ rfl
  refine ⟨⟨_, pqZ⟩, .inl rfl, ?_⟩
  refine WY_nil ?_
  refine WQ_code ?_
  refine WC_seq ?_
  refine WC_region ?_
  refine WL_val rfl rfl rfl (R_loadA (vs := [_, _, _]) rfl ag44 rfl (mmZ) rfl (atZ)) ?_
  refine WL_do0 rfl rfl (D_store (vs := [_, _, _]) rfl Try.sizeOf44 rfl rfl rfl rfl rfl (plZ) (by exact Nat.le_of_ble_eq_true rfl)) ?_
  rintro _ _ rfl
  refine WL_val rfl rfl rfl (R_assign rfl rfl) ?_
  refine WL_nil ?_
  refine WQ_code ?_
  refine WC_ret ?_
  rw [show putAt (pC m s) _ _ = _ from pc_putT h.cl (A := pcH s) rfl 2 _, show poV m s = (⟨m.eb, cl ((m.epre ++ encV x) ++ (r.flatMap encV ++ m.etl)) 44⟩ : Ent) from by unfold poV; rw [hE]; simp]
  refine WQ_ret rfl rfl (.cons (.cell (vs := [_, _, _]) rfl ag44 (mmZ) rfl (atZ)) (.cons (.tmp rfl) .nil)) rfl (by
      exact ⟨{ m with ek := if m.ec = 1 then m.ek else m.ek + 3, ec := m.ec - 1, epre := m.epre ++ encV x }, rfl, rfl, rfl, h.ev (heO.cut (ys := encV x) (zs := r.flatMap encV) (m := r.length) rfl rfl rfl)⟩) (pqZ)
theorem pcounts_ok {m : PM} {s : PS} (h : PIs m s) : Spec Try.prog 11 [ptrP m.p] (poH m s) (fun r H' => r = .agg #[.int .i64 (s.cnt 2 : Int), .int .i64 (s.cnt 1 : Int), .int .i64 (s.cnt 3 : Int), .int .i64 (s.Q.length : Int)] ∧ H' = poH m s) := by
  refine Spec.of (E := [(0, ptrP m.p)]) Try.func11 rfl (by kernel_rfl) Try.ntmps11 rfl rfl (fun w => ?_)
  refine WC_seq ?_
  refine WC_region ?_
  refine WL_do rfl rfl rfl (D_alloc rfl zv33) ?_
  rintro _ _ ⟨b1, rfl, rfl⟩
  refine WL_nil ?_
  refine WQ_code ?_
  refine WC_seq ?_
  refine WC_seq ?_
  refine WC_region ?_
  refine WL_val rfl rfl rfl (R_move rfl rfl) ?_
  refine WL_do rfl rfl rfl (D_call (pnone_ok h) rfl rfl rfl rfl (pqZ)) ?_
  rintro _ _ ⟨_, ⟨rfl, rfl⟩, rfl⟩
  refine WL_nil ?_
  refine WQ_code ?_
  refine WC_F rfl ?_
  refine WC_skip ?_
  refine WQ_code ?_
  refine WC_seq ?_
  refine WC_draw (poH m s) [(0, true), (3, true), (6, true), (9, true), (10, true), (11, true), (12, true), (1, false), (2, true), (4, false), (5, true), (7, false), (8, true), (13, true), (14, true), (15, false)] followsMixed rfl rfl (by kernel_rfl) pqZ ?_
  refine WM_val rfl rfl rfl rfl (R_move rfl rfl) ?_
  refine WM_val rfl rfl rfl rfl (R_move rfl rfl) ?_
  refine WM_val rfl rfl rfl rfl (R_move rfl rfl) ?_
  refine WM_val rfl rfl rfl rfl (R_move rfl rfl) ?_
  refine WM_val rfl rfl rfl rfl (R_nilCheck rfl rfl) ?_
  refine WM_val rfl rfl rfl rfl (R_fieldAddr rfl fa71_5 rfl) ?_
  refine WM_val rfl rfl rfl rfl (R_load (v := ptrQ m.q) rfl sc68 rfl (mmZ) (pc_t h.cl rfl 0)) ?_
  refine WM_do rfl rfl rfl rfl (D_call (pall_ok h 2) rfl rfl rfl rfl (pqZ)) ?_
  rintro _ _ ⟨_, ⟨o2, c2, tl2, rfl, own2, rfl⟩, rfl⟩
  refine ⟨⟨_, pqZ⟩, ?_⟩
  refine WM_val rfl rfl rfl rfl (R_len rfl Try.underlying78 rfl) ?_
  refine WM_do rfl rfl rfl rfl (D_call (pall_ok h 1) rfl rfl rfl rfl (pqZ)) ?_
  rintro _ _ ⟨_, ⟨o1, c1, tl1, rfl, own1, rfl⟩, rfl⟩
  refine ⟨⟨_, pqZ⟩, ?_⟩
  refine WM_val rfl rfl rfl rfl (R_len rfl Try.underlying78 rfl) ?_
  refine WM_do rfl rfl rfl rfl (D_call (pall_ok h 3) rfl rfl rfl rfl (pqZ)) ?_
  rintro _ _ ⟨_, ⟨o3, c3, tl3, rfl, own3, rfl⟩, rfl⟩
  refine ⟨⟨_, pqZ⟩, ?_⟩
  refine WM_val rfl rfl rfl rfl (R_len rfl Try.underlying78 rfl) ?_
  refine WM_call rfl (Spec.quiet (qlen_ok m.q m.qm (fq s.Q) s.n m.qes m.qmc h.qk h.qM)) rfl rfl rfl rfl rfl rfl rfl (pqZ) ?_
  refine WM_val rfl rfl rfl rfl (R_build rfl zv33 pl33 rfl rfl) ?_
  refine WM_do0 rfl rfl rfl (D_store (vs := [_, _, _, _]) rfl Try.sizeOf33 rfl rfl rfl rfl rfl (plZ) (by exact Nat.le_of_ble_eq_true rfl)) ?_
  rintro _ _ rfl
  refine ⟨⟨_, pqZ⟩, ?_⟩
  refine WM_nil ?_
  refine WQ_code ?_
  refine WC_ret ?_
  refine WQ_ret rfl rfl (.cons (.cell (vs := [_, _, _, _]) rfl ag33 (mmZ) rfl (atZ)) .nil) rfl (by
      exact ⟨by show Value.agg _ = _; simp [PS.cnt], rfl⟩) (pqZ)
end Go.Proofs.Yteofigbgdbpjgaa
end
section
set_option linter.unusedVariables false
set_option maxRecDepth 20000
namespace Go.Proofs.Yteofigbgdbpjgaa
theorem gets_ok {m : PM} {s : PS} (h : PIs m s) (hE : s.E.length ≤ 10000) (hn : s.n < 1000000000000) (who : Int) (now dl : Nat) (hb : now ≤ 18446744073709551615) (k c : Int) (he : getE_ s who now dl = 0) (hv : s.getV who now dl = ⟨k, who, c⟩) : Spec Try.prog 9 [ptrP m.p, .int .i64 who, .int .u64 (now : Int), .int .u64 (dl : Int), .int .i64 k, .int .i64 c] (poH m s) (fun r H' => ∃ m', r = .bool true ∧ H' = poH m' (s.getS who now dl) ∧ m'.p = m.p ∧ PIs m' (s.getS who now dl)) := by
  refine Spec.of (E := [(0, ptrP m.p), (1, .int .i64 who), (2, .int .u64 (now : Int)), (3, .int .u64 (dl : Int)), (4, .int .i64 k), (5, .int .i64 c)]) Try.func9 rfl (by kernel_rfl) Try.ntmps9 rfl rfl (fun w => ?_)
  refine WC_seq ?_
  refine WC_region ?_
  refine WL_val rfl rfl rfl (R_assign rfl rfl) ?_
  refine WL_nil ?_
  refine WQ_code ?_
  refine WC_seq ?_
  refine WC_region ?_
  refine WL_val rfl rfl rfl (R_move rfl rfl) ?_
  refine WL_val rfl rfl rfl (R_move rfl rfl) ?_
  refine WL_val rfl rfl rfl (R_move rfl rfl) ?_
  refine WL_val rfl rfl rfl (R_move rfl rfl) ?_
  refine WL_do rfl rfl rfl (D_call (pget_ok h hE hn who now dl hb) rfl rfl rfl rfl (pqZ)) ?_
  rintro _ _ ⟨_, ⟨m1, rfl, rfl, hp1, h1⟩, rfl⟩
  rw [hv, he]
  refine WL_val rfl rfl rfl (R_move rfl rfl) ?_
  refine WL_val rfl rfl rfl (R_extract rfl rfl rfl) ?_
  refine WL_val rfl rfl rfl (R_extract rfl rfl rfl) ?_
  refine WL_do rfl rfl rfl (D_alloc rfl zv44) ?_
  rintro _ _ ⟨b1, rfl, rfl⟩
  refine WL_do0 rfl rfl (D_store (vs := [_, _, _]) rfl Try.sizeOf44 rfl rfl rfl rfl rfl (plZ) (by exact Nat.le_of_ble_eq_true rfl)) ?_
  rintro _ _ rfl
  refine WL_val rfl rfl rfl (R_assign rfl rfl) ?_
  refine WL_nil ?_
  refine WQ_code ?_
  refine WC_seq ?_
  refine WC_region ?_
  refine WL_val rfl rfl rfl (R_loadA (vs := [_, _, _]) rfl ag44 rfl (mmZ) rfl (atZ)) ?_
  refine WL_val rfl rfl rfl (R_move rfl rfl) ?_
  refine WL_val rfl rfl rfl (R_move rfl rfl) ?_
  refine WL_val rfl rfl rfl (R_move rfl rfl) ?_
  refine WL_val rfl rfl rfl (R_build rfl zv44 pl44 rfl rfl) ?_
  refine WL_val rfl rfl rfl (R_seq44 rfl rfl rfl rfl) ?_
  refine WL_val rfl rfl rfl (R_move rfl rfl) ?_
  refine WL_set (s := 29) (v := .bool true) rfl (by simp) ?_
  refine WL_val rfl rfl rfl (R_move rfl rfl) ?_
  refine WL_val rfl rfl rfl (R_eql rfl rfl rfl) ?_
  refine WL_val rfl rfl rfl (R_pickT rfl rfl rfl) ?_
  refine WL_set (s := 32) (v := .bool true) rfl (by simp) ?_
  refine WL_val rfl rfl rfl (R_assign rfl rfl) ?_
  refine WL_nil ?_
  refine WQ_code ?_
  refine WC_ret ?_
  refine WQ_ret rfl rfl (.cons (.tmp rfl) .nil) rfl (by
      exact ⟨m1, rfl, rfl, hp1, h1⟩) (pqZ)
theorem tells_ok {m : PM} {s : PS} (h : PIs m s) (k who c : Int) {r : List Pv} (hE : s.E = ⟨k, who, c⟩ :: r) : Spec Try.prog 13 [ptrP m.p, .int .i64 k, .int .i64 who, .int .i64 c] (poH m s) (fun r H' => ∃ m', r = .bool true ∧ H' = poH m' (s.nx) ∧ m'.p = m.p ∧ PIs m' (s.nx)) := by
  refine Spec.of (E := [(0, ptrP m.p), (1, .int .i64 k), (2, .int .i64 who), (3, .int .i64 c)]) Try.func13 rfl (by kernel_rfl) Try.ntmps13 rfl rfl (fun w => ?_)
  refine WC_seq ?_
  refine WC_region ?_
  refine WL_val rfl rfl rfl (R_assign rfl rfl) ?_
  refine WL_nil ?_
  refine WQ_code ?_
  refine WC_seq ?_
  refine WC_region ?_
  refine WL_val rfl rfl rfl (R_move rfl rfl) ?_
  refine WL_do rfl rfl rfl (D_call (pnext_some h hE) rfl rfl rfl rfl (pqZ)) ?_
  rintro _ _ ⟨_, ⟨m1, rfl, rfl, hp1, h1⟩, rfl⟩
  refine WL_val rfl rfl rfl (R_move rfl rfl) ?_
  refine WL_val rfl rfl rfl (R_extract rfl rfl rfl) ?_
  refine WL_val rfl rfl rfl (R_extract rfl rfl rfl) ?_
  refine WL_set (s := 15) (v := .bool true) rfl (by rfl) ?_
  refine WL_do rfl rfl rfl (D_alloc rfl zv44) ?_
  rintro _ _ ⟨b1, rfl, rfl⟩
  refine WL_do0 rfl rfl (D_store (vs := [_, _, _]) rfl Try.sizeOf44 rfl rfl rfl rfl rfl (plZ) (by exact Nat.le_of_ble_eq_true rfl)) ?_
  rintro _ _ rfl
  refine WL_val rfl rfl rfl (R_assign rfl rfl) ?_
  refine WL_nil ?_
  refine WQ_code ?_
  refine WC_seq ?_
  refine WC_region ?_
  refine WL_val rfl rfl rfl (R_move rfl rfl) ?_
  refine WL_val rfl rfl rfl (R_move rfl rfl) ?_
  refine WL_val rfl rfl rfl (R_loadA (vs := [_, _, _]) rfl ag44 rfl (mmZ) rfl (atZ)) ?_
  refine WL_val rfl rfl rfl (R_move rfl rfl) ?_
  refine WL_val rfl rfl rfl (R_move rfl rfl) ?_
  refine WL_val rfl rfl rfl (R_move rfl rfl) ?_
  refine WL_val rfl rfl rfl (R_build rfl zv44 pl44 rfl rfl) ?_
  refine WL_val rfl rfl rfl (R_seq44 rfl rfl rfl rfl) ?_
  refine WL_val rfl rfl rfl (R_pickT rfl rfl rfl) ?_
  refine WL_set (s := 24) (v := .bool true) rfl (by simp) ?_
  refine WL_val rfl rfl rfl (R_assign rfl rfl) ?_
  refine WL_nil ?_
  refine WQ_code ?_
  refine WC_ret ?_
  refine WQ_ret rfl rfl (.cons (.tmp rfl) .nil) rfl (by
      exact ⟨m1, rfl, rfl, hp1, h1⟩) (pqZ)
theorem adv_eval {s s1 : PS} {now : Nat} {L : List Qp} {O : List Int} (hm : s.may true now = 0) (hl : s.Q.filter (fun x => decide (x.dl ≤ now)) = L) (hl1 : L.length ≤ 1) (h1 : L.foldl PS.tmo (s.at_ now) = s1) (ho : (allI 3 s1.C).filter (fun a => !young s1 now a) = O) (ho1 : O.length ≤ 1) : s.advance now = O.foldl PS.shut s1 := by
  have e1 : s.late now = L := by
    unfold PS.late
    rw [hl]
    match L, hl1 with
    | [], _ => simp
    | [x], _ => simp
  have e2 : s.adv1 now = s1 := by unfold PS.adv1; rw [e1, h1]
  have e3 : s1.old now = O := by
    unfold PS.old
    rw [ho]
    match O, ho1 with
    | [], _ => simp
    | [x], _ => simp
  rw [adv_ok hm, e2, e3]
end Go.Proofs.Yteofigbgdbpjgaa
end
section
set_option linter.unusedVariables false
set_option maxRecDepth 20000
namespace Go.Proofs.Yteofigbgdbpjgaa
def stV (x : Int) : Int := if x = 1 then 1 else if x = 2 then 2 else 0
/-- What each connection is for somebody: 1 dialed, 2 used. -/
def hOf (C : List Cn) (i : Nat) : Int := match C[i]? with
  | some x => stV x.st
  | none => 0
def updH (h : Nat → Int) (i : Nat) (v : Int) : Nat → Int := fun j => if j = i then v else h j
def appE (h : Nat → Int) : List Pv → Option (Nat → Int)
  | [] => some h
  | e :: r => if e.k ≠ 1 ∧ e.k ≠ 2 then appE h r else if 0 ≤ e.c ∧ e.c < 64 ∧ h e.c.toNat = 0 then appE (updH h e.c.toNat (if e.k = 1 then 2 else 1)) r else none
theorem appE_quiet {h : Nat → Int} : ∀ {E : List Pv}, (∀ e ∈ E, e.k ≠ 1 ∧ e.k ≠ 2) → appE h E = some h
  | [], _ => rfl
  | e :: r, he => by
    unfold appE
    rw [if_pos (he e (List.mem_cons_self ..)), appE_quiet fun x hx => he x (List.mem_cons_of_mem _ hx)]
theorem appE_one {h : Nat → Int} {k who : Int} {i : Nat} (hk : k = 1 ∨ k = 2) (hi : i < 64) (h0 : h i = 0) : appE h [⟨k, who, (i : Int)⟩] = some (updH h i (if k = 1 then 2 else 1)) := by
  unfold appE
  rw [if_neg (by dsimp only; omega), if_pos ⟨by dsimp only; omega, by dsimp only; omega, by dsimp only; rw [Int.toNat_natCast]; exact h0⟩]
  dsimp only
  rw [Int.toNat_natCast]; rfl
theorem updH_same (h : Nat → Int) (i : Nat) : updH h i (h i) = h := funext fun j => by unfold updH; split <;> simp_all
theorem updH_twice (h : Nat → Int) (i : Nat) (a b : Int) : updH (updH h i a) i b = updH h i b := funext fun j => by unfold updH; split <;> simp_all
theorem updH_at (h : Nat → Int) (i : Nat) (a : Int) : updH h i a i = a := by unfold updH; rw [if_pos rfl]
theorem updH_ne (h : Nat → Int) {i j : Nat} (a : Int) (e : j ≠ i) : updH h i a j = h j := by unfold updH; rw [if_neg e]
theorem hOf_at {C : List Cn} {i : Nat} {x : Cn} (h : C[i]? = some x) : hOf C i = stV x.st := by unfold hOf; rw [h]
theorem hOf_set {C : List Cn} {i : Nat} (h : i < C.length) (x : Cn) : hOf (C.set i x) = updH (hOf C) i (stV x.st) := funext fun j => by
  unfold hOf updH
  by_cases e : j = i
  · subst e
    rw [if_pos rfl, List.getElem?_set_self h]
  · rw [if_neg e, List.getElem?_set_ne (fun e2 => e e2.symm)]
/-! counts -/
abbrev cn (t : Int) (C : List Cn) : Nat := C.countP (fun x => decide (x.st = t))
theorem allF_cn (t : Int) : ∀ (C : List Cn) (k : Nat), (allF t k C).length = cn t C
  | [], _ => rfl
  | x :: r, k => by
    have ih := allF_cn t r (k + 1)
    unfold allF cn
    rw [List.countP_cons]
    by_cases e : x.st = t
    · rw [if_pos e, if_pos (decide_eq_true e), List.length_cons, ih]
    · rw [if_neg e, if_neg (by simpa using e), ih]; rfl
theorem cnt_cn (s : PS) (t : Int) : s.cnt t = cn t s.C := allF_cn t s.C 0
theorem cn_set (t : Int) : ∀ {C : List Cn} {i : Nat} {x : Cn} (y : Cn), C[i]? = some x → cn t (C.set i y) + (if x.st = t then 1 else 0) = cn t C + (if y.st = t then 1 else 0)
  | [], _, _, _, h => by simp at h
  | z :: r, 0, x, y, h => by
    simp at h; subst h
    rw [List.set_cons_zero]
    unfold cn
    rw [List.countP_cons, List.countP_cons]
    simp only [decide_eq_true_eq]
    omega
  | z :: r, i + 1, x, y, h => by
    have ih := cn_set t (C := r) (i := i) y (by simpa using h)
    rw [List.set_cons_succ]
    unfold cn at ih ⊢
    rw [List.countP_cons, List.countP_cons]
    omega
theorem cn_sum : ∀ {C : List Cn}, (∀ x ∈ C, 0 ≤ x.st ∧ x.st ≤ 3) → cn 0 C + cn 1 C + cn 2 C + cn 3 C = C.length
  | [], _ => rfl
  | x :: r, h => by
    have ih := cn_sum (C := r) fun y hy => h y (List.mem_cons_of_mem _ hy)
    have hx := h x (List.mem_cons_self ..)
    unfold cn at ih ⊢
    rw [List.countP_cons, List.countP_cons, List.countP_cons, List.countP_cons, List.length_cons]
    simp only [decide_eq_true_eq]
    (repeat' split) <;> omega
theorem cn_pos {t : Int} {C : List Cn} {i : Nat} {x : Cn} (h : C[i]? = some x) (hx : x.st = t) : 0 < cn t C := List.countP_pos_iff.2 ⟨x, List.mem_of_getElem? h, decide_eq_true hx⟩
theorem cn_nil {t : Int} {C : List Cn} (h : allI t C = []) : cn t C = 0 := by rw [← allF_cn t C 0]; exact congrArg List.length h
theorem b0_ : (0 : Int) ≤ 0 ∧ (0 : Int) ≤ 3 := by decide
theorem b1_ : (0 : Int) ≤ 1 ∧ (1 : Int) ≤ 3 := by decide
theorem b2_ : (0 : Int) ≤ 2 ∧ (2 : Int) ≤ 3 := by decide
theorem b3_ : (0 : Int) ≤ 3 ∧ (3 : Int) ≤ 3 := by decide
structure PH (s : PS) : Prop where
  len : s.C.length = 64
  st : ∀ x ∈ s.C, 0 ≤ x.st ∧ x.st ≤ 3
  used : cn 1 s.C + cn 2 s.C + cn 3 s.C ≤ s.op
  idle : cn 3 s.C ≤ s.most
  wait : s.Q = [] ∨ (cn 3 s.C = 0 ∧ cn 1 s.C + cn 2 s.C + cn 3 s.C = s.op)
  op : s.op ≤ 64
def wt (s : PS) : Nat := 3 * cn 3 s.C + 2 * cn 2 s.C + cn 1 s.C + s.Q.length
theorem PH.room {s : PS} (h : PH s) : s.room = true ↔ cn 1 s.C + cn 2 s.C + cn 3 s.C < s.op := by
  have h1 := cn_sum h.st
  have h2 := allF_cn 0 s.C 0
  have h3 := h.len
  unfold PS.room PS.used
  rw [show (allI 0 s.C).length = cn 0 s.C from h2, decide_eq_true_eq]
  omega
/-- A connection turns into another one. -/
theorem PH.set {s : PS} (h : PH s) {i : Nat} {x y : Cn} (hx : s.C[i]? = some x) (hy : 0 ≤ y.st ∧ y.st ≤ 3) (h1 : y.st = 0 ∨ x.st ≠ 0 ∨ s.room = true) (h2 : y.st ≠ 3 ∨ cn 3 s.C < s.most) (h3 : s.Q = [] ∨ (x.st = 1 ∧ y.st = 2)) : PH (s.set i y) := by
  have e0 := cn_set 0 y hx
  have e1 := cn_set 1 y hx
  have e2 := cn_set 2 y hx
  have e3 := cn_set 3 y hx
  have hxm := h.st x (List.mem_of_getElem? hx)
  have hu := h.used
  have hi := h.idle
  have hr : y.st = 0 ∨ x.st ≠ 0 ∨ cn 1 s.C + cn 2 s.C + cn 3 s.C < s.op := by
    rcases h1 with e | e | e
    · exact .inl e
    · exact .inr (.inl e)
    · exact .inr (.inr (h.room.1 e))
  refine ⟨by show (s.C.set i y).length = 64; rw [List.length_set]; exact h.len, fun z hz => ?_, ?_, ?_, ?_, h.op⟩
  · rcases List.mem_or_eq_of_mem_set hz with hz | rfl
    · exact h.st z hz
    · exact hy
  · show cn 1 (s.C.set i y) + cn 2 (s.C.set i y) + cn 3 (s.C.set i y) ≤ s.op
    (repeat' split at e1) <;> (repeat' split at e2) <;> (repeat' split at e3) <;> omega
  · show cn 3 (s.C.set i y) ≤ s.most
    (repeat' split at e3) <;> omega
  · rcases h3 with h3 | ⟨h3, h4⟩
    · exact .inl h3
    · rcases h.wait with h5 | ⟨h5, h6⟩
      · exact .inl h5
      · right
        show cn 3 (s.C.set i y) = 0 ∧ cn 1 (s.C.set i y) + cn 2 (s.C.set i y) + cn 3 (s.C.set i y) = s.op
        rw [h3, h4] at e1 e2 e3
        simp at e1 e2 e3
        omega
theorem free_x {s : PS} (h : PH s) (hr : s.room = true) : ∃ x, s.C[s.free]? = some x ∧ x.st = 0 ∧ s.free < 64 := by
  obtain ⟨_, h2, x, h3, h4⟩ := PS.free_of (PS.room_ne hr h.len h.op)
  exact ⟨x, h3, h4, by rw [← h.len]; exact h2⟩
structure LoseR (s s' : PS) (k : Nat) (t : Int) : Prop where
  ph : PH s'
  ev : ∃ E2, s'.E = s.E ++ E2 ∧ appE (updH (hOf s.C) k 0) E2 = some (hOf s'.C) ∧ E2.length ≤ 1
  w : wt s' + (if t = 3 then 3 else if t = 2 then 2 else 1) ≤ wt s
  q : s'.Q = s.Q.drop 1
  n : s'.n = s.n
  now : s'.now = s.now
  op : s'.op = s.op
  most : s'.most = s.most
  none : s.Q = [] → s'.E = s.E ∧ hOf s'.C = updH (hOf s.C) k 0
theorem lose_R {s : PS} (h : PH s) {k : Nat} {x : Cn} (hx : s.C[k]? = some x) (hs : x.st ≠ 0) : LoseR s (s.lose k) k x.st := by
  have hk := (List.getElem?_eq_some_iff.1 hx).1
  have e1 := cn_set 1 (⟨0, 0, 0⟩ : Cn) hx
  have e2 := cn_set 2 (⟨0, 0, 0⟩ : Cn) hx
  have e3 := cn_set 3 (⟨0, 0, 0⟩ : Cn) hx
  simp only [show ¬ ((0 : Int) = 1) from by decide, show ¬ ((0 : Int) = 2) from by decide, show ¬ ((0 : Int) = 3) from by decide, if_false, Nat.add_zero] at e1 e2 e3
  have hxm := h.st x (List.mem_of_getElem? hx)
  have hset : hOf (s.set k ⟨0, 0, 0⟩).C = updH (hOf s.C) k 0 := hOf_set hk _
  cases hQ : s.Q with
  | nil =>
    have e : s.lose k = s.set k ⟨0, 0, 0⟩ := PS.next_nil hQ
    rw [e]
    refine ⟨h.set hx b0_ (.inl rfl) (.inl (by decide)) (.inl hQ), ⟨[], (List.append_nil _).symm, congrArg some hset.symm, Nat.zero_le _⟩, ?_, by show s.Q = _; rw [hQ]; rfl, rfl, rfl, rfl, rfl, fun _ => ⟨rfl, hset⟩⟩
    show 3 * cn 3 (s.C.set k ⟨0, 0, 0⟩) + 2 * cn 2 (s.C.set k ⟨0, 0, 0⟩) + cn 1 (s.C.set k ⟨0, 0, 0⟩) + s.Q.length + _ ≤ _
    unfold wt
    (repeat' split at e1) <;> (repeat' split at e2) <;> (repeat' split at e3) <;> (repeat' split) <;> omega
  | cons a r =>
    obtain ⟨hi0, hful⟩ : cn 3 s.C = 0 ∧ cn 1 s.C + cn 2 s.C + cn 3 s.C = s.op := by
      rcases h.wait with e | e
      · rw [hQ] at e; cases e
      · exact e
    -- the pool with the connection gone, ars if nobody waited
    have h0 : PH { s.set k ⟨0, 0, 0⟩ with Q := [] } := by
      have h9 : PH { s with Q := [] } := ⟨h.len, h.st, h.used, h.idle, .inl rfl, h.op⟩
      exact h9.set hx b0_ (.inl rfl) (.inl (by decide)) (.inl rfl)
    have hr : (s.set k ⟨0, 0, 0⟩).room = true := by
      have := (h0.room).2 (by
        show cn 1 (s.C.set k ⟨0, 0, 0⟩) + cn 2 (s.C.set k ⟨0, 0, 0⟩) + cn 3 (s.C.set k ⟨0, 0, 0⟩) < s.op
        (repeat' split at e1) <;> (repeat' split at e2) <;> (repeat' split at e3) <;> omega)
      exact this
    have e : s.lose k = ((s.set k ⟨0, 0, 0⟩).pop.dial a.who).tell 2 a.who ((s.set k ⟨0, 0, 0⟩).free : Int) := PS.next_ok hQ hr
    obtain ⟨y, hy, hy0, hfl⟩ := free_x h0 hr
    have hy' : (s.C.set k ⟨0, 0, 0⟩)[(s.set k ⟨0, 0, 0⟩).free]? = some y := hy
    have hfl2 : (s.set k ⟨0, 0, 0⟩).free < 64 := hfl
    have hy2 : (s.set k ⟨0, 0, 0⟩).C[(s.set k ⟨0, 0, 0⟩).free]? = some y := hy
    have f1 := cn_set 1 (⟨1, a.who, 0⟩ : Cn) hy'
    have f2 := cn_set 2 (⟨1, a.who, 0⟩ : Cn) hy'
    have f3 := cn_set 3 (⟨1, a.who, 0⟩ : Cn) hy'
    rw [hy0] at f1 f2 f3
    simp only [show ¬ ((1 : Int) = 2) from by decide, show ¬ ((1 : Int) = 3) from by decide, show ¬ ((0 : Int) = 1) from by decide, show ¬ ((0 : Int) = 2) from by decide, show ¬ ((0 : Int) = 3) from by decide, if_false, if_true, Nat.add_zero] at f1 f2 f3
    have hC : (s.lose k).C = (s.C.set k ⟨0, 0, 0⟩).set (s.set k ⟨0, 0, 0⟩).free ⟨1, a.who, 0⟩ := by rw [e]; rfl
    have hQ' : (s.lose k).Q = r := by rw [e]; show s.Q.drop 1 = r; rw [hQ]; rfl
    have hop : (s.lose k).op = s.op := by rw [e]; rfl
    have hmo : (s.lose k).most = s.most := by rw [e]; rfl
    refine ⟨⟨by rw [hC, List.length_set, List.length_set]; exact h.len, fun z hz => ?_, ?_, ?_, .inr ⟨?_, ?_⟩, by rw [hop]; exact h.op⟩, ⟨[⟨2, a.who, ((s.set k ⟨0, 0, 0⟩).free : Int)⟩], by rw [e]; rfl, ?_, Nat.le_refl _⟩, ?_, by rw [hQ', hQ]; rfl, by rw [e]; rfl, by rw [e]; rfl, hop, hmo, fun e9 => by rw [hQ] at e9; cases e9⟩
    · rw [hC] at hz
      rcases List.mem_or_eq_of_mem_set hz with hz | rfl
      · exact h0.st z hz
      · exact b1_
    · rw [hC, hop]; (repeat' split at e1) <;> (repeat' split at e2) <;> (repeat' split at e3) <;> omega
    · rw [hC, hmo]; have := h.idle; (repeat' split at e3) <;> omega
    · rw [hC]; (repeat' split at e3) <;> omega
    · rw [hC, hop]; (repeat' split at e1) <;> (repeat' split at e2) <;> (repeat' split at e3) <;> omega
    · rw [← hset, appE_one (.inr rfl) hfl2 (by rw [hOf_at hy2, hy0]; rfl), hC]
      exact congrArg some (hOf_set (C := s.C.set k ⟨0, 0, 0⟩) (by rw [List.length_set, h.len]; exact hfl2) ⟨1, a.who, 0⟩).symm
    · unfold wt
      rw [hC, hQ', hQ, List.length_cons]
      (repeat' split at e1) <;> (repeat' split at e2) <;> (repeat' split at e3) <;> (repeat' split) <;> omega
end Go.Proofs.Yteofigbgdbpjgaa
end
section
set_option linter.unusedVariables false
set_option maxRecDepth 20000
namespace Go.Proofs.Yteofigbgdbpjgaa
theorem PH.at_ {s : PS} (h : PH s) (now : Nat) : PH (s.at_ now) := ⟨h.len, h.st, h.used, h.idle, h.wait, h.op⟩
theorem PH.tell {s : PS} (h : PH s) (k who c : Int) : PH (s.tell k who c) := ⟨h.len, h.st, h.used, h.idle, h.wait, h.op⟩
theorem PH.dry {s : PS} (h : PH s) (E : List Pv) : PH { s with E := E } := ⟨h.len, h.st, h.used, h.idle, h.wait, h.op⟩
theorem PH.lessQ {s : PS} (h : PH s) {Q : List Qp} (hq : Q = [] ∨ s.Q ≠ []) : PH { s with Q := Q } := ⟨h.len, h.st, h.used, h.idle, by
  rcases hq with e | e
  · exact .inl e
  · rcases h.wait with e2 | e2
    · exact absurd e2 e
    · exact .inr e2, h.op⟩
structure OpR (s s' : PS) (h : Nat → Int) (now : Nat) : Prop where
  ph : PH s'
  ev : ∃ E2, s'.E = s.E ++ E2 ∧ appE h E2 = some (hOf s'.C)
  w : wt s' ≤ wt s + 1
  n : s'.n ≤ s.n + 1
  now : s'.now = now
  op : s'.op = s.op
  most : s'.most = s.most
  len : s'.E.length ≤ s.E.length + s.Q.length + 128
theorem wt_set {s : PS} {i : Nat} {x y : Cn} (hx : s.C[i]? = some x) (hxs : 0 ≤ x.st ∧ x.st ≤ 3) (hys : 0 ≤ y.st ∧ y.st ≤ 3) : (wt (s.set i y) : Int) + x.st = wt s + y.st := by
  have e1 := cn_set 1 y hx
  have e2 := cn_set 2 y hx
  have e3 := cn_set 3 y hx
  show ((3 * cn 3 (s.C.set i y) + 2 * cn 2 (s.C.set i y) + cn 1 (s.C.set i y) + s.Q.length : Nat) : Int) + x.st = ((3 * cn 3 s.C + 2 * cn 2 s.C + cn 1 s.C + s.Q.length : Nat) : Int) + y.st
  (repeat' split at e1) <;> (repeat' split at e2) <;> (repeat' split at e3) <;> omega
theorem idle_Q {s : PS} (h : PH s) (hi : allI 3 s.C ≠ []) : s.Q = [] := by
  rcases h.wait with e | ⟨e, _⟩
  · exact e
  · exfalso
    obtain ⟨a, ha⟩ := List.exists_mem_of_ne_nil _ hi
    obtain ⟨i, x, _, hx, hst⟩ := allI_mem ha
    have := cn_pos hx hst
    omega
theorem room_Q {s : PS} (h : PH s) (hr : s.room = true) : s.Q = [] := by
  rcases h.wait with e | ⟨_, e⟩
  · exact e
  · have := h.room.1 hr; omega
theorem get_ev {s : PS} (h : PH s) {who : Int} {now dl : Nat} (he : getE_ s who now dl = 0) :
    PH (s.getS who now dl) ∧ wt (s.getS who now dl) ≤ wt s + 1 ∧ (s.getS who now dl).n ≤ s.n + 1 ∧ (s.getS who now dl).now = now ∧ (s.getS who now dl).op = s.op ∧ (s.getS who now dl).most = s.most ∧ (s.getS who now dl).E = s.E ∧ appE (hOf s.C) [s.getV who now dl] = some (hOf (s.getS who now dl).C) := by
  by_cases hi : allI 3 s.C = []
  · cases hr : s.room with
    | true =>
      obtain ⟨e1, e2⟩ := get_dial he hi hr
      obtain ⟨x, hx, hx0, hfl⟩ := free_x h hr
      rw [e1, e2]
      have hp := (h.at_ now).set (i := s.free) (y := ⟨1, who, 0⟩) hx b1_ (.inr (.inr hr)) (.inl (by show (1 : Int) ≠ 3; decide)) (.inl (show s.Q = [] from room_Q h hr))
      have hw := wt_set (s := s.at_ now) (y := ⟨1, who, 0⟩) hx (h.st x (List.mem_of_getElem? hx)) b1_
      refine ⟨hp, ?_, Nat.le_succ _, rfl, rfl, rfl, rfl, ?_⟩
      · rw [hx0] at hw
        have h9 : wt (s.at_ now) = wt s := rfl
        have h8 : ((wt ((s.at_ now).dial who) : Nat) : Int) + 0 = wt (s.at_ now) + 1 := hw
        omega
      · rw [appE_one (.inr rfl) hfl (by rw [hOf_at hx, hx0]; rfl)]
        exact congrArg some (hOf_set (C := s.C) (by rw [h.len]; exact hfl) ⟨1, who, 0⟩).symm
    | false =>
      obtain ⟨e1, e2⟩ := get_wait he hi hr
      rw [e1, e2]
      have h3 := cn_nil hi
      have hnr : ¬ (cn 1 s.C + cn 2 s.C + cn 3 s.C < s.op) := fun q => by have := h.room.2 q; rw [hr] at this; cases this
      have hu := h.used
      refine ⟨⟨h.len, h.st, h.used, h.idle, .inr ⟨h3, show cn 1 s.C + cn 2 s.C + cn 3 s.C = s.op by omega⟩, h.op⟩, ?_, Nat.le_refl _, rfl, rfl, rfl, rfl, ?_⟩
      · show 3 * cn 3 s.C + 2 * cn 2 s.C + cn 1 s.C + (s.Q ++ [_]).length ≤ 3 * cn 3 s.C + 2 * cn 2 s.C + cn 1 s.C + s.Q.length + 1
        rw [List.length_append]; simp; omega
      · exact appE_quiet fun e he => by rw [List.mem_singleton.1 he]; exact ⟨by show (3 : Int) ≠ 1; decide, by show (3 : Int) ≠ 2; decide⟩
  · obtain ⟨e1, e2⟩ := get_use he hi
    obtain ⟨k, x, hk, hx, hkl, hx3⟩ := last_mem hi
    rw [e1, e2]
    have hp := (h.at_ now).set (i := s.last.toNat) (y := ⟨2, 0, 0⟩) hx b2_ (.inr (.inl (by rw [hx3]; decide))) (.inl (by show (2 : Int) ≠ 3; decide)) (.inl (show s.Q = [] from idle_Q h hi))
    have hw := wt_set (s := s.at_ now) (y := ⟨2, 0, 0⟩) hx (h.st x (List.mem_of_getElem? hx)) b2_
    refine ⟨hp, ?_, Nat.le_succ _, rfl, rfl, rfl, rfl, ?_⟩
    · rw [hx3] at hw
      have h9 : wt (s.at_ now) = wt s := rfl
      have h8 : ((wt ((s.at_ now).set s.last.toNat ⟨2, 0, 0⟩) : Nat) : Int) + 3 = wt (s.at_ now) + 2 := hw
      omega
    · have hlt : s.last.toNat < s.C.length := by rw [hk, Int.toNat_natCast]; exact hkl
      have e3 : s.last = ((s.last.toNat : Nat) : Int) := by rw [hk, Int.toNat_natCast]
      rw [show (⟨1, who, s.last⟩ : Pv) = ⟨1, who, ((s.last.toNat : Nat) : Int)⟩ from congrArg (Pv.mk 1 who) e3]
      rw [appE_one (.inl rfl) (by rw [← h.len]; exact hlt) (by rw [hOf_at hx, hx3]; rfl)]
      exact congrArg some (hOf_set (C := s.C) hlt ⟨2, 0, 0⟩).symm
theorem dialed_made_R {s : PS} (h : PH s) {k : Nat} {x : Cn} (hx : s.C[k]? = some x) (hs : x.st = 1) (now : Nat) : PH ((s.at_ now).set k ⟨2, 0, 0⟩) ∧ wt ((s.at_ now).set k ⟨2, 0, 0⟩) ≤ wt s + 1 ∧ hOf ((s.at_ now).set k ⟨2, 0, 0⟩).C = updH (hOf s.C) k 2 := by
  have hw := wt_set (s := s.at_ now) (y := ⟨2, 0, 0⟩) hx (h.st x (List.mem_of_getElem? hx)) b2_
  refine ⟨(h.at_ now).set (y := ⟨2, 0, 0⟩) hx b2_ (.inr (.inl (by rw [hs]; decide))) (.inl (by show (2 : Int) ≠ 3; decide)) (.inr ⟨hs, rfl⟩), ?_, hOf_set (C := s.C) (List.getElem?_eq_some_iff.1 hx).1 _⟩
  rw [hs] at hw
  have h9 : wt (s.at_ now) = wt s := rfl
  have h8 : ((wt ((s.at_ now).set k ⟨2, 0, 0⟩) : Nat) : Int) + 1 = wt (s.at_ now) + 2 := hw
  omega
theorem lose_at {s : PS} (h : PH s) {k : Nat} {x : Cn} (hx : s.C[k]? = some x) (hs : x.st ≠ 0) (now : Nat) : OpR s ((s.at_ now).lose k) (updH (hOf s.C) k 0) now := by
  have r := lose_R (h.at_ now) hx hs
  obtain ⟨E2, e1, e2, e3⟩ := r.ev
  exact ⟨r.ph, ⟨E2, e1, e2⟩, by have := r.w; have h9 : wt (s.at_ now) = wt s := rfl; omega, by rw [r.n]; exact Nat.le_succ _, r.now, r.op, r.most, by rw [e1, List.length_append]; (show s.E.length + _ ≤ _); omega⟩
theorem close_at {s : PS} (h : PH s) {k : Nat} {x : Cn} (hx : s.C[k]? = some x) (hs : x.st ≠ 0) (now : Nat) : OpR s (((s.at_ now).tell 5 (-1) (k : Int)).lose k) (updH (hOf s.C) k 0) now := by
  have r := lose_R ((h.at_ now).tell 5 (-1) (k : Int)) hx hs
  obtain ⟨E2, e1, e2, e3⟩ := r.ev
  refine ⟨r.ph, ⟨⟨5, -1, (k : Int)⟩ :: E2, by rw [e1]; show (s.E ++ [_]) ++ E2 = _; simp, ?_⟩, by have := r.w; have h9 : wt ((s.at_ now).tell 5 (-1) (k : Int)) = wt s := rfl; omega, by rw [r.n]; exact Nat.le_succ _, r.now, r.op, r.most, by rw [e1, List.length_append]; (show (s.E ++ [_]).length + _ ≤ _); rw [List.length_append, List.length_singleton]; omega⟩
  unfold appE
  rw [if_pos ⟨by show (5 : Int) ≠ 1; decide, by show (5 : Int) ≠ 2; decide⟩]
  exact e2
theorem dialed_R {s : PS} (h : PH s) {c : Int} {now : Nat} (he : s.inE c 1 now = 0) (made : Bool) : ∃ k : Nat, c = (k : Int) ∧ k < 64 ∧ hOf s.C k = 1 ∧ OpR s (s.dialed c made now) (if made = true then updH (hOf s.C) k 2 else updH (hOf s.C) k 0) now := by
  obtain ⟨k, x, rfl, hk, hx, hst, _, _⟩ := inE_zero he
  refine ⟨k, rfl, hk, by rw [hOf_at hx, hst]; rfl, ?_⟩
  cases made with
  | true =>
    rw [dialed_made he, if_pos rfl]
    obtain ⟨a, b, c⟩ := dialed_made_R h hx hst now
    exact ⟨a, ⟨[], (List.append_nil _).symm, by rw [c]; rfl⟩, b, Nat.le_succ _, rfl, rfl, rfl, by show s.E.length ≤ _; omega⟩
  | false =>
    rw [dialed_lost he, if_neg (by decide)]
    exact lose_at h hx (by rw [hst]; decide) now
theorem put_R {s : PS} (h : PH s) {c : Int} {now : Nat} (he : s.inE c 2 now = 0) (good : Bool) : ∃ k : Nat, c = (k : Int) ∧ k < 64 ∧ hOf s.C k = 2 ∧ OpR s (s.put c good now) (updH (hOf s.C) k 0) now := by
  obtain ⟨k, x, rfl, hk, hx, hst, _, _⟩ := inE_zero he
  have h2 : hOf s.C k = 2 := by rw [hOf_at hx, hst]; rfl
  refine ⟨k, rfl, hk, h2, ?_⟩
  cases good with
  | false => rw [put_bad he]; exact close_at h hx (by rw [hst]; decide) now
  | true =>
    cases hQ : s.Q with
    | nil =>
      by_cases hl : (allI 3 s.C).length < s.most
      · rw [put_idle he hQ hl]
        have hl2 : cn 3 s.C < s.most := by rw [← allF_cn 3 s.C 0]; exact hl
        have hp := (h.at_ now).set (y := ⟨3, 0, now⟩) hx b3_ (.inr (.inl (by rw [hst]; decide))) (.inr hl2) (.inl hQ)
        have hw := wt_set (s := s.at_ now) (y := ⟨3, 0, now⟩) hx (h.st x (List.mem_of_getElem? hx)) b3_
        refine ⟨hp, ⟨[], (List.append_nil _).symm, congrArg some (hOf_set (C := s.C) (List.getElem?_eq_some_iff.1 hx).1 ⟨3, 0, now⟩).symm⟩, ?_, Nat.le_succ _, rfl, rfl, rfl, by show s.E.length ≤ _; omega⟩
        rw [hst] at hw
        have h9 : wt (s.at_ now) = wt s := rfl
        have h8 : ((wt ((s.at_ now).set k ⟨3, 0, now⟩) : Nat) : Int) + 2 = wt (s.at_ now) + 3 := hw
        omega
      · rw [put_over he hQ hl]; exact close_at h hx (by rw [hst]; decide) now
    | cons a r =>
      rw [put_use he hQ]
      have hne : s.Q ≠ [] := by rw [hQ]; simp
      have hp : PH (((s.at_ now).pop).tell 1 a.who (k : Int)) := ((h.at_ now).lessQ (Q := s.Q.drop 1) (.inr hne)).tell _ _ _
      refine ⟨hp, ⟨[⟨1, a.who, (k : Int)⟩], rfl, ?_⟩, ?_, Nat.le_succ _, rfl, rfl, rfl, by show (s.E ++ [_]).length ≤ _; rw [List.length_append, List.length_singleton]; omega⟩
      · rw [appE_one (.inl rfl) hk (updH_at _ _ _), if_pos rfl, updH_twice]
        exact congrArg some (show _ = hOf s.C by rw [← h2, updH_same])
      · show 3 * cn 3 s.C + 2 * cn 2 s.C + cn 1 s.C + (s.Q.drop 1).length ≤ 3 * cn 3 s.C + 2 * cn 2 s.C + cn 1 s.C + s.Q.length + 1
        rw [List.length_drop]; omega
theorem cancel_R {s : PS} (h : PH s) {who : Int} {now : Nat} (he : s.canE who now = 0) : OpR s (s.cancel who now) (hOf s.C) now := by
  rw [cancel_ok he]
  have hp : PH ((s.at_ now).leave who) := (h.at_ now).lessQ (Q := s.Q.filter fun x => decide (x.who ≠ who)) (by
    cases hQ : s.Q with
    | nil => exact .inl rfl
    | cons a r => exact .inr (by show s.Q ≠ []; rw [hQ]; simp))
  refine ⟨hp, ⟨[], (List.append_nil _).symm, rfl⟩, ?_, Nat.le_succ _, rfl, rfl, rfl, by show s.E.length ≤ _; omega⟩
  show 3 * cn 3 s.C + 2 * cn 2 s.C + cn 1 s.C + (s.Q.filter _).length ≤ 3 * cn 3 s.C + 2 * cn 2 s.C + cn 1 s.C + s.Q.length + 1
  have := List.length_filter_le (fun x : Qp => decide (x.who ≠ who)) s.Q
  omega
structure AdR (s s' : PS) : Prop where
  ph : PH s'
  ev : ∃ E2, s'.E = s.E ++ E2 ∧ ∀ e ∈ E2, e.k ≠ 1 ∧ e.k ≠ 2
  h : hOf s'.C = hOf s.C
  w : wt s' ≤ wt s
  n : s'.n = s.n
  now : s'.now = s.now
  op : s'.op = s.op
  most : s'.most = s.most
theorem AdR.refl {s : PS} (h : PH s) : AdR s s := ⟨h, ⟨[], (List.append_nil _).symm, fun e he => by cases he⟩, rfl, Nat.le_refl _, rfl, rfl, rfl, rfl⟩
theorem AdR.trans {a b c : PS} (h1 : AdR a b) (h2 : AdR b c) : AdR a c := by
  obtain ⟨E1, e1, f1⟩ := h1.ev
  obtain ⟨E2, e2, f2⟩ := h2.ev
  exact ⟨h2.ph, ⟨E1 ++ E2, by rw [e2, e1, List.append_assoc], fun e he => by rcases List.mem_append.1 he with he | he; exact f1 e he; exact f2 e he⟩, h2.h.trans h1.h, Nat.le_trans h2.w h1.w, h2.n.trans h1.n, h2.now.trans h1.now, h2.op.trans h1.op, h2.most.trans h1.most⟩
theorem tmo_R {s : PS} (h : PH s) (x : Qp) : AdR s (s.tmo x) := by
  refine ⟨((h.lessQ (Q := s.Q.filter fun y => decide (y.who ≠ x.who)) ?_).tell _ _ _), ⟨[⟨4, x.who, -1⟩], rfl, fun e he => by rw [List.mem_singleton.1 he]; exact ⟨by show (4 : Int) ≠ 1; decide, by show (4 : Int) ≠ 2; decide⟩⟩, rfl, ?_, rfl, rfl, rfl, rfl⟩
  · cases hQ : s.Q with
    | nil => exact .inl rfl
    | cons a r => exact .inr (by simp)
  · show 3 * cn 3 s.C + 2 * cn 2 s.C + cn 1 s.C + (s.Q.filter _).length ≤ 3 * cn 3 s.C + 2 * cn 2 s.C + cn 1 s.C + s.Q.length
    have := List.length_filter_le (fun y : Qp => decide (y.who ≠ x.who)) s.Q
    omega
theorem tmos_R : ∀ (l : List Qp) {s : PS}, PH s → AdR s (l.foldl PS.tmo s)
  | [], s, h => AdR.refl h
  | x :: r, s, h => (tmo_R h x).trans (tmos_R r (tmo_R h x).ph)
theorem shut_R {s : PS} (h : PH s) {k : Nat} {x : Cn} (hx : s.C[k]? = some x) (hs : x.st = 3) : AdR s (s.shut (k : Int)) ∧ (s.shut (k : Int)).C = s.C.set k ⟨0, 0, 0⟩ := by
  have hQ : s.Q = [] := idle_Q h (fun e => by have := cn_pos hx hs; rw [cn_nil e] at this; omega)
  have r := lose_R (h.tell 5 (-1) (k : Int)) hx (by rw [hs]; decide)
  have hC : ((s.tell 5 (-1) (k : Int)).lose k).C = s.C.set k ⟨0, 0, 0⟩ := by
    have e : (s.tell 5 (-1) (k : Int)).lose k = (s.tell 5 (-1) (k : Int)).set k ⟨0, 0, 0⟩ := PS.next_nil hQ
    rw [e]; rfl
  rw [pshut_eq]
  obtain ⟨e1, e2⟩ := r.none hQ
  refine ⟨⟨r.ph, ⟨[⟨5, -1, (k : Int)⟩], e1, fun e he => by rw [List.mem_singleton.1 he]; exact ⟨by show (5 : Int) ≠ 1; decide, by show (5 : Int) ≠ 2; decide⟩⟩, ?_, by have := r.w; have h9 : wt (s.tell 5 (-1) (k : Int)) = wt s := rfl; omega, r.n, r.now, r.op, r.most⟩, hC⟩
  rw [e2]
  show updH (hOf s.C) k 0 = _
  have h0 : hOf s.C k = 0 := by rw [hOf_at hx, hs]; rfl
  rw [← h0, updH_same]
theorem shuts_R : ∀ (l : List Int) {s : PS}, PH s → l.Nodup → (∀ a ∈ l, a ∈ allI 3 s.C) → AdR s (l.foldl PS.shut s)
  | [], s, h, _, _ => AdR.refl h
  | a :: r, s, h, hn, hm => by
    obtain ⟨k, x, rfl, hx, hs⟩ := allI_mem (hm a (List.mem_cons_self ..))
    obtain ⟨h1, h2⟩ := List.nodup_cons.1 hn
    obtain ⟨q, hC⟩ := shut_R h hx hs
    refine q.trans (shuts_R r q.ph h2 fun b hb => ?_)
    obtain ⟨j, y, rfl, hy, hy3⟩ := allI_mem (hm b (List.mem_cons_of_mem _ hb))
    have hjk : k ≠ j := fun e => h1 (by rw [e]; exact hb)
    exact allI_in (x := y) (by rw [hC, List.getElem?_set_ne hjk]; exact hy) hy3
theorem old_nodup (s : PS) (now : Nat) : (s.old now).Nodup := by
  refine (List.mergeSort_perm _ _).nodup_iff.2 ?_
  have h1 := (allF_srt 3 s.C 0).1
  have h2 : (allI 3 s.C).Nodup := h1.imp fun h => Int.ne_of_lt h
  exact h2.sublist (List.filter_sublist ..)
theorem adv_R {s : PS} (h : PH s) {now : Nat} (hm : s.may true now = 0) : OpR s (s.advance now) (hOf s.C) now := by
  rw [adv_ok hm]
  have r1 : AdR (s.at_ now) (s.adv1 now) := tmos_R (s.late now) (h.at_ now)
  have r2 := shuts_R ((s.adv1 now).old now) r1.ph (old_nodup _ _) fun a ha => (old_mem ha).1
  have r := r1.trans r2
  obtain ⟨E2, e1, e2⟩ := r.ev
  refine ⟨r.ph, ⟨E2, e1, ?_⟩, by have := r.w; have h9 : wt (s.at_ now) = wt s := rfl; omega, by rw [r.n]; exact Nat.le_succ _, r.now, r.op, r.most, ?_⟩
  · have h9 : hOf (s.at_ now).C = hOf s.C := rfl
    rw [← h9, ← r.h]; exact appE_quiet e2
  · have a1 := shuts_E ((s.adv1 now).old now) (s.adv1 now)
    have a2 := (tmo_rest (s.late now) (s.at_ now)).2.2.2.1
    have a3 := (late_perm s now).length_eq
    have a4 := List.length_filter_le (fun x : Qp => decide (x.dl ≤ now)) s.Q
    have a5 := old_len (s.adv1 now) now
    have a6 := allI_len 3 (s.adv1 now).C
    rw [r1.ph.len] at a6
    have a7 : (s.adv1 now).E.length = s.E.length + (s.late now).length := a2
    omega
structure CutI (s s' : PS) (h : Nat → Int) (t : Nat) : Prop where
  ph : PH s'
  ev : appE h s'.E = some (hOf s'.C)
  len : s'.E.length < 300
  w : wt s' ≤ wt s + 1
  n : s'.n ≤ s.n + 1
  now : s'.now ≤ t
  op : s'.op = s.op
  most : s'.most = s.most
theorem q_wt (s : PS) : s.Q.length ≤ wt s := Nat.le_add_left _ _
theorem OpR.cut {s s' : PS} {h : Nat → Int} {t : Nat} (r : OpR s s' h t) (hE : s.E = []) (h2 : s.Q.length ≤ 100) : CutI s s' h t := by
  obtain ⟨E2, e1, e2⟩ := r.ev
  rw [hE, List.nil_append] at e1
  have h1 := r.len
  rw [hE] at h1
  simp only [List.length_nil] at h1
  exact ⟨r.ph, by rw [e1]; exact e2, by omega, r.w, r.n, by rw [r.now]; exact Nat.le_refl _, r.op, r.most⟩
theorem CutI.dry {s s' : PS} {h : Nat → Int} {t : Nat} (c : CutI s s' h t) : PH { s' with E := [] } := c.ph.dry []
theorem put_q {s : PS} (h : PH s) {k now : Nat} (he : s.inE (k : Int) 2 now = 0) : (s.Q ≠ [] → (s.put (k : Int) true now).Q.length < s.Q.length) ∧ (s.Q = [] → (s.put (k : Int) true now).Q = [] ∧ hOf (s.put (k : Int) true now).C = updH (hOf s.C) k 0) := by
  obtain ⟨k2, x, e, hk, hx, hst, _, _⟩ := inE_zero he
  obtain rfl : k = k2 := by omega
  constructor
  · intro hQ
    cases hq : s.Q with
    | nil => exact absurd hq hQ
    | cons a r =>
      rw [put_use he hq]
      show (s.Q.drop 1).length < _
      rw [hq]; simp
  · intro hQ
    by_cases hl : (allI 3 s.C).length < s.most
    · rw [put_idle he hQ hl]
      exact ⟨hQ, hOf_set (C := s.C) (List.getElem?_eq_some_iff.1 hx).1 ⟨3, 0, now⟩⟩
    · rw [put_over he hQ hl]
      have r := lose_R ((h.at_ now).tell 5 (-1) (k : Int)) hx (by rw [hst]; decide)
      exact ⟨by rw [r.q]; show s.Q.drop 1 = []; rw [hQ]; rfl, (r.none hQ).2⟩
/-- How far the end has come. -/
def Prog (s : PS) (q0 n : Nat) : Prop := s.Q.length < q0 ∨ (s.Q.length = q0 ∧ ∀ i, i < n → hOf s.C i = 0)
theorem Prog.skip {s : PS} {q0 n : Nat} (h : Prog s q0 n) (h0 : hOf s.C n = 0) : Prog s q0 (n + 1) := by
  rcases h with h | ⟨h1, h2⟩
  · exact .inl h
  · refine .inr ⟨h1, fun i hi => ?_⟩
    by_cases e : i = n
    · rw [e]; exact h0
    · exact h2 i (by omega)
theorem Prog.put {s s1 : PS} {q0 n t : Nat} (h : Prog s q0 n) (hp : PH s1) (hQ : s1.Q = s.Q) (hh : ∀ i, i < n → hOf s1.C i = hOf s.C i) (he : s1.inE (n : Int) 2 t = 0) : Prog { s1.put (n : Int) true t with E := [] } q0 (n + 1) := by
  obtain ⟨h1, h2⟩ := put_q hp he
  by_cases e : s1.Q = []
  · obtain ⟨h3, h4⟩ := h2 e
    rcases h with h | ⟨h5, h6⟩
    · left
      show (s1.put (n : Int) true t).Q.length < q0
      rw [h3]; have : 0 ≤ s.Q.length := Nat.zero_le _; simp; omega
    · right
      refine ⟨?_, fun i hi => ?_⟩
      · show (s1.put (n : Int) true t).Q.length = q0
        rw [h3, ← h5, ← hQ, e]
      · show hOf (s1.put (n : Int) true t).C i = 0
        rw [h4]
        by_cases e2 : i = n
        · rw [e2, updH_at]
        · rw [updH_ne _ _ e2, hh i (by omega)]; exact h6 i (by omega)
  · left
    have := h1 e
    show (s1.put (n : Int) true t).Q.length < q0
    rw [hQ] at this
    rcases h with h | ⟨h5, _⟩ <;> omega
theorem ph_new {op most keep : Nat} (h1 : 1 ≤ op ∧ op ≤ 64) (h2 : most ≤ 64) : PH (PS.new op most keep) := by
  have e : ∀ t : Int, t ≠ 0 → cn t (PS.new op most keep).C = 0 := fun t ht => List.countP_eq_zero.2 fun x hx => by
    rw [List.eq_of_mem_replicate hx]
    simp only [decide_eq_true_eq]
    exact fun e => ht e.symm
  exact ⟨by simp [PS.new], fun x hx => by rw [List.eq_of_mem_replicate hx]; exact b0_, by rw [e 1 (by decide), e 2 (by decide), e 3 (by decide)]; exact Nat.zero_le _, by rw [e 3 (by decide)]; exact Nat.zero_le _, .inl rfl, h1.2⟩
theorem wt_new (op most keep : Nat) : wt (PS.new op most keep) = 0 := by
  have e : ∀ t : Int, t ≠ 0 → cn t (PS.new op most keep).C = 0 := fun t ht => List.countP_eq_zero.2 fun x hx => by
    rw [List.eq_of_mem_replicate hx]
    simp only [decide_eq_true_eq]
    exact fun e => ht e.symm
  unfold wt
  rw [e 1 (by decide), e 2 (by decide), e 3 (by decide)]; rfl
theorem Prog.le {s : PS} {q0 n : Nat} (h : Prog s q0 n) : s.Q.length ≤ q0 := by rcases h with h | ⟨h, _⟩ <;> omega
structure Ac46 where
  wt : Int
  n : Int
  now : Nat
  dl : Nat
  good : Bool
abbrev encA46 (x : Ac46) : List Value := [.int .i64 x.wt, .int .i64 x.n, .int .u64 (x.now : Int), .int .u64 (x.dl : Int), .bool x.good]
def vB (op most : Int) (keep : Nat) : Bool := decide (1 ≤ op ∧ op ≤ 64 ∧ 0 ≤ most ∧ most ≤ 64 ∧ 1 ≤ keep)
end Go.Proofs.Yteofigbgdbpjgaa
end
section
set_option linter.unusedVariables false
set_option maxRecDepth 20000
namespace Go.Proofs.Yteofigbgdbpjgaa
open Go.ChangeShapes Go.WideShapes Go.ChangeAt Go.RowKit Go.Joins Go.Deep
theorem decA2 {H : Type} {enc : TypeId × Value → H} {W : World} {sp : Nat → Bool} {held : Bool} (m : Nat) (cs : List Value) (y : DataW H × List MemPlace) (h : DataW.trod enc Try.prog W 0 sp held m 41 cs = some y) : ∃ x : Ac46, cs = encA46 x ∧ (x.now ≤ 18446744073709551615 ∧ x.dl ≤ 18446744073709551615) := by
  obtain ⟨wt, n, now, dl, good, rfl, _, _, w3, w4, _⟩ := decA m cs y h
  obtain ⟨k, rfl, hk⟩ := wf_u64 w3
  obtain ⟨d, rfl, hd⟩ := wf_u64 w4
  exact ⟨⟨wt, n, k, d, good⟩, rfl, hk, hd⟩
end Go.Proofs.Yteofigbgdbpjgaa
end
section
set_option linter.unusedVariables false
set_option maxRecDepth 20000
namespace Go.Proofs.Yteofigbgdbpjgaa
structure Cr where
  num : Int
  st : Int
  who : Int
  since : Nat
abbrev encR (x : Cr) : List Value := [.int .i64 x.num, .int .i64 x.st, .int .i64 x.who, .int .u64 (x.since : Int)]
theorem encR4 (x : Cr) : (encR x).length = 4 := rfl
theorem encR_one (R : List Cr) : (R.flatMap encR).all Value.oneCell' = true := fm_all (fun _ => rfl) R
abbrev Wp := Int × Nat
abbrev encP (x : Wp) : List Value := [.int .i64 x.1, .int .u64 (x.2 : Int)]
theorem encP2 (x : Wp) : (encP x).length = 2 := rfl
theorem encP_one (Q : List Wp) : (Q.flatMap encP).all Value.oneCell' = true := fm_all (fun _ => rfl) Q
/-- A model of a pool. -/
structure RS where
  op : Nat
  most : Nat
  keep : Nat
  now : Nat
  R : List Cr
  Q : List Wp
  E : List Pv
/-- A model in memory. -/
structure MM where
  cb : Option Nat
  cc : Nat
  ctl : List Value
  qb : Option Nat
  qc : Nat
  qtl : List Value
  eb : Option Nat
  ek : Nat
  ec : Nat
  epre : List Value
  etl : List Value
structure MIs (M : MM) (r : RS) : Prop where
  c : Own M.cb r.R.length M.cc 4 (r.R.flatMap encR) M.ctl
  q : Own M.qb r.Q.length M.qc 2 (r.Q.flatMap encP) M.qtl
  e : OwnS M.eb M.ek r.E.length M.ec 3 M.epre (r.E.flatMap encV) M.etl
  cl : r.R.length ≤ 64
  ql : r.Q.length ≤ 1001
  el : r.E.length ≤ 100000
  op : r.op ≤ 64
  ek : M.eb = none → M.ek = 0
abbrev mdL (M : MM) (r : RS) : List Value := [.int .i64 (r.op : Int), .int .i64 (r.most : Int), .int .u64 (r.keep : Int), .int .u64 (r.now : Int), slV M.cb r.R.length M.cc, slV M.qb r.Q.length M.qc, sVal M.eb M.ek r.E.length M.ec]
abbrev mdV (M : MM) (r : RS) : Value := .agg (mdL M r).toArray
def RS.cnt (r : RS) (t : Int) : Nat := r.R.countP (fun x => decide (x.st = t))
def findR (num t : Int) : List Cr → Int
  | [] => -1
  | x :: r => if x.num = num ∧ x.st = t then 0 else if findR num t r = -1 then -1 else findR num t r + 1
theorem findR_hit {num t : Int} : ∀ {R : List Cr} {k : Nat} {x : Cr}, (∀ y ∈ R.take k, ¬ (y.num = num ∧ y.st = t)) → R[k]? = some x → x.num = num ∧ x.st = t → findR num t R = k
  | [], _, _, _, h, _ => by simp at h
  | y :: r, 0, x, _, h, hx => by simp at h; subst h; unfold findR; rw [if_pos hx]; rfl
  | y :: r, k + 1, x, h, hg, hx => by
    have ih := findR_hit (R := r) (k := k) (fun z hz => h z (by simp [hz])) (by simpa using hg) hx
    unfold findR
    rw [if_neg (h y (by simp)), ih, if_neg (by omega)]; omega
theorem findR_none {num t : Int} : ∀ {R : List Cr}, (∀ y ∈ R, ¬ (y.num = num ∧ y.st = t)) → findR num t R = -1
  | [], _ => rfl
  | y :: r, h => by
    unfold findR
    rw [if_neg (h y (by simp)), if_pos (findR_none fun z hz => h z (by simp [hz]))]
def withStep (c : Cr) (p : List Cr × Bool) (x : Cr) : List Cr × Bool :=
  let p1 := if p.2 = false ∧ c.num ≤ x.num then (p.1 ++ [c], true) else p
  if x.num ≠ c.num then (p1.1 ++ [x], p1.2) else p1
def withF (c : Cr) (R : List Cr) : List Cr × Bool := R.foldl (withStep c) ([], false)
def withR (R : List Cr) (c : Cr) : List Cr := if (withF c R).2 = true then (withF c R).1 else (withF c R).1 ++ [c]
theorem withF_next {c : Cr} {R : List Cr} {k : Nat} {x : Cr} (h : R[k]? = some x) : withF c (R.take (k + 1)) = withStep c (withF c (R.take k)) x := by
  unfold withF; rw [take_next h, List.foldl_append]; rfl
theorem withStep_len (c : Cr) (p : List Cr × Bool) (x : Cr) : (withStep c p x).1.length ≤ p.1.length + 2 := by
  unfold withStep
  by_cases h1 : p.2 = false ∧ c.num ≤ x.num <;> by_cases h2 : x.num ≠ c.num <;> simp [h1, h2] <;> omega
theorem withF_len (c : Cr) (R : List Cr) : (withF c R).1.length ≤ 2 * R.length := by
  have key : ∀ (R : List Cr) (p : List Cr × Bool), (R.foldl (withStep c) p).1.length ≤ p.1.length + 2 * R.length := by
    intro R
    induction R with
    | nil => intro p; exact Nat.le_refl _
    | cons x r ih =>
      intro p
      have h1 := ih (withStep c p x)
      have h2 := withStep_len c p x
      rw [List.foldl_cons, List.length_cons]; omega
  have := key R ([], false)
  unfold withF; simpa using this
/-- The first number that no connection has, where they stand by their numbers. -/
def freeR : List Cr → Nat → Nat
  | [], k => k
  | x :: r, k => if x.num = (k : Int) then freeR r (k + 1) else k
theorem freeR_at {R : List Cr} : ∀ {k i : Nat}, (∀ j x, j < i → R[j]? = some x → x.num = ((k + j : Nat) : Int)) → (R.length ≤ i ∨ ∃ x, R[i]? = some x ∧ x.num ≠ ((k + i : Nat) : Int)) → i ≤ R.length → freeR R k = k + i := by
  induction R with
  | nil => intro k i _ _ h; simp at h; subst h; rfl
  | cons x r ih =>
    intro k i h1 h2 h3
    cases i with
    | zero =>
      unfold freeR
      rcases h2 with h2 | ⟨y, hy, hn⟩
      · simp at h2
      · simp at hy; subst hy
        rw [if_neg (by simpa using hn)]; rfl
    | succ i =>
      have hx := h1 0 x (by omega) rfl
      unfold freeR
      rw [if_pos (by simpa using hx), ih (k := k + 1) (i := i) (fun j y hj hy => by rw [h1 (j + 1) y (by omega) (by simpa using hy)]; omega) (by
        rcases h2 with h2 | ⟨y, hy, hn⟩
        · exact .inl (by simpa using h2)
        · exact .inr ⟨y, by simpa using hy, by rw [show k + 1 + i = k + (i + 1) from by omega]; exact hn⟩) (by simpa using h3)]
      omega
def RS.with_ (r : RS) (c : Cr) : RS := { r with R := withR r.R c }
def RS.free (r : RS) : Nat := freeR r.R 0
def RS.dial (r : RS) (who : Int) : RS := r.with_ ⟨(r.free : Int), 1, who, 0⟩
def RS.tell (r : RS) (k who c : Int) : RS := { r with E := r.E ++ [⟨k, who, c⟩] }
def RS.leave (r : RS) (who : Int) : RS := { r with Q := r.Q.filter fun x => decide (x.1 ≠ who) }
def RS.without (r : RS) (i : Nat) : RS := { r with R := r.R.take i ++ r.R.drop (i + 1) }
def RS.at_ (r : RS) (now : Nat) : RS := { r with now := now }
def RS.next (r : RS) : RS := match r.Q with
  | [] => r
  | x :: _ => if r.op ≤ r.R.length then r else (((r.leave x.1).dial x.1).tell 2 x.1 ((r.leave x.1).free : Int))
def RS.waits (r : RS) (who : Int) : Bool := decide ((r.leave who).Q.length < r.Q.length)
def RS.may (r : RS) (right : Bool) (now : Nat) : Int := if right = false then 2 else if now < r.now ∨ now = 18446744073709551615 then 3 else 0
structure WiW where
  k : Nat
  p : List Cr × Bool
  ob : Option Nat
  c : Nat
  tl : List Value
structure LvW where
  k : Nat
  l : List Wp
  ob : Option Nat
  c : Nat
  tl : List Value
theorem fltQ_next {who : Int} {Q : List Wp} {k : Nat} {x : Wp} (h : Q[k]? = some x) : (Q.take (k + 1)).filter (fun x => decide (x.1 ≠ who)) = (Q.take k).filter (fun x => decide (x.1 ≠ who)) ++ (if x.1 ≠ who then [x] else []) := by
  rw [take_next h, List.filter_append]
  by_cases e : x.1 = who <;> simp [e]
end Go.Proofs.Yteofigbgdbpjgaa
end
section
set_option linter.unusedVariables false
set_option maxRecDepth 20000
namespace Go.Proofs.Yteofigbgdbpjgaa
theorem withStep_cnt (c : Cr) (p : List Cr × Bool) (x : Cr) : (withStep c p x).1.length + p.2.toNat + (if x.num = c.num then 1 else 0) = p.1.length + 1 + (withStep c p x).2.toNat := by
  obtain ⟨l, b⟩ := p
  unfold withStep
  cases b <;> by_cases h1 : c.num ≤ x.num <;> by_cases h2 : x.num = c.num <;> simp [h1, h2] <;> omega
theorem withF_cnt (c : Cr) (R : List Cr) : (withF c R).1.length + R.countP (fun x => decide (x.num = c.num)) = R.length + (withF c R).2.toNat := by
  have key : ∀ (R : List Cr) (p : List Cr × Bool), (R.foldl (withStep c) p).1.length + p.2.toNat + R.countP (fun x => decide (x.num = c.num)) = p.1.length + R.length + (R.foldl (withStep c) p).2.toNat := by
    intro R
    induction R with
    | nil => intro p; simp
    | cons x r ih =>
      intro p
      have h1 := ih (withStep c p x)
      have h2 := withStep_cnt c p x
      rw [List.foldl_cons, List.length_cons, List.countP_cons]
      rw [show (if decide (x.num = c.num) = true then 1 else 0) = (if x.num = c.num then 1 else 0) from by by_cases e : x.num = c.num <;> simp [e]]
      omega
  have := key R ([], false)
  unfold withF; simpa using this
theorem withR_len (c : Cr) (R : List Cr) : (withR R c).length ≤ R.length + 1 := by
  have h := withF_cnt c R
  have h2 : (withF c R).2.toNat ≤ 1 := Bool.toNat_le _
  unfold withR
  split
  · omega
  · rename_i e
    have e2 : (withF c R).2 = false := by simpa using e
    rw [e2] at h; simp at h
    rw [List.length_append, List.length_singleton]; omega
theorem withF_true {c : Cr} {R : List Cr} (h : ∃ x ∈ R, c.num ≤ x.num) : (withF c R).2 = true := by
  have key : ∀ (R : List Cr) (p : List Cr × Bool), (p.2 = true ∨ ∃ x ∈ R, c.num ≤ x.num) → (R.foldl (withStep c) p).2 = true := by
    intro R
    induction R with
    | nil => intro p h; rcases h with h | ⟨x, hx, _⟩; exact h; cases hx
    | cons x r ih =>
      intro p h
      rw [List.foldl_cons]
      apply ih
      rcases h with h | ⟨z, hz, hc⟩
      · left; unfold withStep; by_cases h2 : x.num = c.num <;> simp [h, h2]
      · rcases List.mem_cons.1 hz with rfl | hz
        · left; unfold withStep; by_cases h1 : p.2 = false <;> by_cases h2 : z.num = c.num <;> simp [h1, h2, hc] <;> simp at h1 <;> first | exact h1 | (rw [← h2]; exact fun _ => hc)
        · exact .inr ⟨z, hz, hc⟩
  exact key R _ (.inr h)
theorem withR_len_mem {c : Cr} {R : List Cr} (hm : ∃ x ∈ R, x.num = c.num) : (withR R c).length ≤ R.length := by
  have h := withF_cnt c R
  have h2 : (withF c R).2.toNat ≤ 1 := Bool.toNat_le _
  have h3 : 0 < R.countP (fun x => decide (x.num = c.num)) := by
    obtain ⟨x, hx, e⟩ := hm
    exact List.countP_pos_iff.2 ⟨x, hx, by simpa using e⟩
  have ht := withF_true (c := c) (R := R) (by obtain ⟨x, hx, e⟩ := hm; exact ⟨x, hx, by omega⟩)
  unfold withR
  rw [if_pos ht]; omega
theorem rnext_none {r : RS} (h : r.Q.length = 0 ∨ r.op ≤ r.R.length) : r.next = r := by
  unfold RS.next
  cases e : r.Q with
  | nil => rfl
  | cons x q =>
    rw [e] at h
    rcases h with h | h
    · simp at h
    · simp only [if_pos h]
theorem rnext_some {r : RS} {x : Wp} (h : r.Q[0]? = some x) (ho : ¬ r.op ≤ r.R.length) : r.next = ((r.leave x.1).dial x.1).tell 2 x.1 ((r.leave x.1).free : Int) := by
  unfold RS.next
  cases e : r.Q with
  | nil => rw [e] at h; simp at h
  | cons z q =>
    rw [e] at h
    simp only [List.getElem?_cons_zero, Option.some.injEq] at h
    subst h
    simp only [if_neg ho]
end Go.Proofs.Yteofigbgdbpjgaa
end
section
set_option linter.unusedVariables false
set_option maxRecDepth 20000
namespace Go.Proofs.Yteofigbgdbpjgaa
section
variable {α : Type} {p : α → Bool} {q : α → α → Bool} {L : List α} {k j : Nat} {x z : α}
def selC (q : α → α → Bool) (L : List α) (x : α) : Option Nat → Bool
  | none => true
  | some j => match L[j]? with | none => false | some y => q x y
/-- The place of the best of the first k elements that may be taken: the first one, and then each that is better than the last best one. -/
def selK (p : α → Bool) (q : α → α → Bool) (L : List α) : Nat → Option Nat
  | 0 => none
  | k + 1 => match L[k]? with
    | none => selK p q L k
    | some x => if p x = true ∧ selC q L x (selK p q L k) = true then some k else selK p q L k
theorem selK_yes (hx : L[k]? = some x) (hp : p x = true) (h : selK p q L k = none) : selK p q L (k + 1) = some k := by
  rw [selK, hx]; simp only [selC, hp, h, and_self, if_true]
theorem selK_yes2 (hx : L[k]? = some x) (hp : p x = true) (h : selK p q L k = some j) (hz : L[j]? = some z) (hq : q x z = true) : selK p q L (k + 1) = some k := by
  rw [selK, hx]; simp only [selC, hp, h, hz, hq, and_self, if_true]
theorem selK_no (hx : L[k]? = some x) (hp : p x = false) : selK p q L (k + 1) = selK p q L k := by
  rw [selK, hx]; simp [hp]
theorem selK_no2 (hx : L[k]? = some x) (h : selK p q L k = some j) (hz : L[j]? = some z) (hq : q x z = false) : selK p q L (k + 1) = selK p q L k := by
  rw [selK, hx]; simp [selC, h, hz, hq]
theorem selK_lt : ∀ {k : Nat}, selK p q L k = some j → j < k ∧ ∃ z, L[j]? = some z ∧ p z = true
  | 0, h => by cases h
  | k + 1, h => by
    rw [selK] at h
    cases hx : L[k]? with
    | none => rw [hx] at h; have := selK_lt h; exact ⟨by omega, this.2⟩
    | some x =>
      rw [hx] at h
      simp only at h
      split at h
      · rename_i g
        obtain rfl := Option.some.inj h
        exact ⟨by omega, x, hx, g.1⟩
      · have := selK_lt h; exact ⟨by omega, this.2⟩
end
def optI : Option Nat → Int
  | none => -1
  | some j => j
theorem optI_neg {o : Option Nat} (h : optI o < 0) : o = none := by
  cases o with
  | none => rfl
  | some j => exact absurd h (by show ¬ (j : Int) < 0; omega)
theorem optI_pos {o : Option Nat} (h : ¬ optI o < 0) : ∃ j, o = some j := by
  cases o with
  | none => exact absurd (show (-1 : Int) < 0 by decide) h
  | some j => exact ⟨j, rfl⟩
def pIdle (x : Cr) : Bool := decide (x.st = 3)
def qLate (x y : Cr) : Bool := decide (y.since ≤ x.since)
def fBusy (who : Int) (x : Cr) : Bool := decide (x.st = 1 ∧ x.who = who)
def RS.busy (r : RS) (who : Int) : Bool := r.waits who || r.R.any (fBusy who)
def RS.lastI (r : RS) : Option Nat := selK pIdle qLate r.R r.R.length
def RS.wait (r : RS) (who : Int) (dl : Nat) : RS := { r with Q := r.Q ++ [(who, dl)] }
def RS.get (r : RS) (who : Int) (now dl : Nat) : RS × Pv × Int :=
  if r.may (decide (0 ≤ who ∧ who ≤ 1000)) now ≠ 0 then (r, ⟨0, 0, 0⟩, r.may (decide (0 ≤ who ∧ who ≤ 1000)) now)
  else if dl ≤ now then (r, ⟨0, 0, 0⟩, 3)
  else if r.busy who = true then (r, ⟨0, 0, 0⟩, 11)
  else match r.lastI with
    | some j => match r.R[j]? with
      | some x => ((r.at_ now).with_ ⟨x.num, 2, 0, 0⟩, ⟨1, who, x.num⟩, 0)
      | none => (r, ⟨0, 0, 0⟩, 0)
    | none => if r.R.length < r.op then ((r.at_ now).dial who, ⟨2, who, (r.free : Int)⟩, 0) else ((r.at_ now).wait who dl, ⟨3, who, -1⟩, 0)
section
variable {r : RS} {who : Int} {now dl : Nat} (h0 : ¬ r.may (decide (0 ≤ who ∧ who ≤ 1000)) now ≠ 0) (h1 : ¬ dl ≤ now) (h2 : r.busy who = false)
theorem rg_bad (h : r.may (decide (0 ≤ who ∧ who ≤ 1000)) now ≠ 0) : r.get who now dl = (r, ⟨0, 0, 0⟩, r.may (decide (0 ≤ who ∧ who ≤ 1000)) now) := by unfold RS.get; rw [if_pos h]
include h0
theorem rg_late (h : dl ≤ now) : r.get who now dl = (r, ⟨0, 0, 0⟩, 3) := by unfold RS.get; rw [if_neg h0, if_pos h]
include h1
theorem rg_busy (h : r.busy who = true) : r.get who now dl = (r, ⟨0, 0, 0⟩, 11) := by unfold RS.get; rw [if_neg h0, if_neg h1, if_pos h]
include h2
theorem rg_use {j : Nat} {x : Cr} (hj : r.lastI = some j) (hx : r.R[j]? = some x) : r.get who now dl = ((r.at_ now).with_ ⟨x.num, 2, 0, 0⟩, ⟨1, who, x.num⟩, 0) := by
  unfold RS.get; rw [if_neg h0, if_neg h1, if_neg (by rw [h2]; decide), hj]; simp only [hx]
theorem rg_dial (hj : r.lastI = none) (hl : r.R.length < r.op) : r.get who now dl = ((r.at_ now).dial who, ⟨2, who, (r.free : Int)⟩, 0) := by
  unfold RS.get; rw [if_neg h0, if_neg h1, if_neg (by rw [h2]; decide), hj]; simp only [if_pos hl]
theorem rg_wait (hj : r.lastI = none) (hl : ¬ r.R.length < r.op) : r.get who now dl = ((r.at_ now).wait who dl, ⟨3, who, -1⟩, 0) := by
  unfold RS.get; rw [if_neg h0, if_neg h1, if_neg (by rw [h2]; decide), hj]; simp only [if_neg hl]
end
structure GtW where
  k : Nat
  b : Bool
  o : Option Nat
theorem MIs.at_ {M : MM} {r : RS} (h : MIs M r) (now : Nat) : MIs M (r.at_ now) := ⟨h.c, h.q, h.e, h.cl, h.ql, h.el, h.op, h.ek⟩
theorem findR_pos {num t : Int} : ∀ {R : List Cr}, ¬ findR num t R < 0 → ∃ x, R[(findR num t R).toNat]? = some x ∧ x.num = num ∧ x.st = t
  | [], h => absurd (show (-1 : Int) < 0 by decide) h
  | y :: r, h => by
    unfold findR at h ⊢
    by_cases e : y.num = num ∧ y.st = t
    · simp only [if_pos e]; exact ⟨y, rfl, e⟩
    · simp only [if_neg e] at h ⊢
      by_cases e2 : findR num t r = -1
      · simp only [if_pos e2] at h; exact absurd (show (-1 : Int) < 0 by decide) h
      · simp only [if_neg e2] at h ⊢
        have h9 : ¬ findR num t r < 0 := fun h8 => by
          have : findR num t r = -1 ∨ 0 ≤ findR num t r := by
            clear h e e2 h8
            induction r with
            | nil => exact .inl rfl
            | cons z r ih => unfold findR; split; exact .inr (by decide); split; exact .inl rfl; rcases ih with ih | ih; contradiction; exact .inr (by omega)
          omega
        obtain ⟨x, hx, hc⟩ := findR_pos h9
        exact ⟨x, by rw [show (findR num t r + 1).toNat = (findR num t r).toNat + 1 from by omega]; exact hx, hc⟩
def RS.dialed (r : RS) (c : Int) (made : Bool) (now : Nat) : RS × Int :=
  if r.may (decide (0 ≤ c)) now ≠ 0 then (r, r.may (decide (0 ≤ c)) now)
  else if findR c 1 r.R < 0 then (r, 9)
  else if made = true then ((r.at_ now).with_ ⟨c, 2, 0, 0⟩, 0)
  else (((r.at_ now).without (findR c 1 r.R).toNat).next, 0)
def RS.first (r : RS) : Int := match r.Q with | [] => 0 | x :: _ => x.1
theorem first_at {r : RS} {x : Wp} (h : r.Q[0]? = some x) : r.first = x.1 := by
  unfold RS.first
  cases e : r.Q with
  | nil => rw [e] at h; simp at h
  | cons z q => rw [e] at h; simp at h; rw [h]
def RS.put (r : RS) (c : Int) (good : Bool) (now : Nat) : RS × Int :=
  if r.may (decide (0 ≤ c)) now ≠ 0 then (r, r.may (decide (0 ≤ c)) now)
  else if findR c 2 r.R < 0 then (r, 9)
  else if good = true ∧ 0 < r.Q.length then (((r.at_ now).leave r.first).tell 1 r.first c, 0)
  else if good = true ∧ r.cnt 3 < r.most then ((r.at_ now).with_ ⟨c, 3, 0, now⟩, 0)
  else ((((r.at_ now).without (findR c 2 r.R).toNat).tell 5 (-1) c).next, 0)
end Go.Proofs.Yteofigbgdbpjgaa
end
section
set_option linter.unusedVariables false
set_option maxRecDepth 20000
namespace Go.Proofs.Yteofigbgdbpjgaa
section
variable {r : RS} {c : Int} {made good : Bool} {now : Nat} (h0 : ¬ r.may (decide (0 ≤ c)) now ≠ 0)
theorem rd_bad (h : r.may (decide (0 ≤ c)) now ≠ 0) : r.dialed c made now = (r, r.may (decide (0 ≤ c)) now) := by unfold RS.dialed; rw [if_pos h]
theorem rp_bad (h : r.may (decide (0 ≤ c)) now ≠ 0) : r.put c good now = (r, r.may (decide (0 ≤ c)) now) := by unfold RS.put; rw [if_pos h]
include h0
theorem rd_none (h : findR c 1 r.R < 0) : r.dialed c made now = (r, 9) := by unfold RS.dialed; rw [if_neg h0, if_pos h]
theorem rp_none (h : findR c 2 r.R < 0) : r.put c good now = (r, 9) := by unfold RS.put; rw [if_neg h0, if_pos h]
theorem rd_made (h : ¬ findR c 1 r.R < 0) (hm : made = true) : r.dialed c made now = ((r.at_ now).with_ ⟨c, 2, 0, 0⟩, 0) := by unfold RS.dialed; rw [if_neg h0, if_neg h, if_pos hm]
theorem rd_lost (h : ¬ findR c 1 r.R < 0) (hm : made = false) : r.dialed c made now = (((r.at_ now).without (findR c 1 r.R).toNat).next, 0) := by unfold RS.dialed; rw [if_neg h0, if_neg h, if_neg (by rw [hm]; decide)]
theorem rp_hand (h : ¬ findR c 2 r.R < 0) (hm : good = true) (hq : 0 < r.Q.length) : r.put c good now = (((r.at_ now).leave r.first).tell 1 r.first c, 0) := by unfold RS.put; rw [if_neg h0, if_neg h, if_pos ⟨hm, hq⟩]
theorem rp_keep (h : ¬ findR c 2 r.R < 0) (hm : good = true) (hq : ¬ 0 < r.Q.length) (hi : r.cnt 3 < r.most) : r.put c good now = ((r.at_ now).with_ ⟨c, 3, 0, now⟩, 0) := by unfold RS.put; rw [if_neg h0, if_neg h, if_neg (fun e => hq e.2), if_pos ⟨hm, hi⟩]
theorem rp_full (h : ¬ findR c 2 r.R < 0) (hq : ¬ 0 < r.Q.length) (hi : ¬ r.cnt 3 < r.most) : r.put c good now = ((((r.at_ now).without (findR c 2 r.R).toNat).tell 5 (-1) c).next, 0) := by unfold RS.put; rw [if_neg h0, if_neg h, if_neg (fun e => hq e.2), if_neg (fun e => hi e.2)]
theorem rp_worn (h : ¬ findR c 2 r.R < 0) (hm : good = false) : r.put c good now = ((((r.at_ now).without (findR c 2 r.R).toNat).tell 5 (-1) c).next, 0) := by unfold RS.put; rw [if_neg h0, if_neg h, if_neg (fun e => by rw [hm] at e; exact absurd e.1 (by decide)), if_neg (fun e => by rw [hm] at e; exact absurd e.1 (by decide))]
end
theorem fR_lt {r : RS} {num t : Int} (h : ¬ findR num t r.R < 0) : (findR num t r.R).toNat < r.R.length := by
  obtain ⟨x, hx, _⟩ := findR_pos h
  exact (List.getElem?_eq_some_iff.1 hx).1
theorem fR_mem {r : RS} {num t : Int} (h : ¬ findR num t r.R < 0) : ∃ x ∈ r.R, x.num = num := by
  obtain ⟨x, hx, h1, _⟩ := findR_pos h
  exact ⟨x, List.mem_of_getElem? hx, h1⟩
end Go.Proofs.Yteofigbgdbpjgaa
end
section
set_option linter.unusedVariables false
set_option maxRecDepth 20000
namespace Go.Proofs.Yteofigbgdbpjgaa
def pLate (now : Nat) (x : Wp) : Bool := decide (x.2 ≠ 18446744073709551615 ∧ x.2 ≤ now)
def qSoon (x y : Wp) : Bool := decide (x.2 < y.2)
def pOld (keep now : Nat) (x : Cr) : Bool := decide (x.st = 3 ∧ keep ≤ now - x.since)
def qOld (x y : Cr) : Bool := decide (x.since < y.since)
def RS.soon (r : RS) (now : Nat) : Option Nat := selK (pLate now) qSoon r.Q r.Q.length
def RS.oldest (r : RS) (now : Nat) : Option Nat := selK (pOld r.keep now) qOld r.R r.R.length
def advQ (now : Nat) : Nat → RS → RS
  | 0, r => r
  | n + 1, r => match r.soon now with
    | none => r
    | some j => match r.Q[j]? with
      | none => r
      | some z => advQ now n ((r.leave z.1).tell 4 z.1 (-1))
def advC (now : Nat) : Nat → RS → RS
  | 0, r => r
  | n + 1, r => match r.oldest now with
    | none => r
    | some j => match r.R[j]? with
      | none => r
      | some z => advC now n (((r.without j).tell 5 (-1) z.num).next)
def advA (r : RS) (now : Nat) : RS := if r.keep = 18446744073709551615 then advQ now r.Q.length (r.at_ now) else advC now r.R.length (advQ now r.Q.length (r.at_ now))
def RS.adv (r : RS) (now : Nat) : RS × Int := if r.may true now ≠ 0 then (r, r.may true now) else (advA r now, 0)
theorem advQ_none {now n : Nat} {r : RS} (h : r.soon now = none) : advQ now n r = r := by cases n with | zero => rfl | succ n => simp only [advQ, h]
theorem advC_none {now n : Nat} {r : RS} (h : r.oldest now = none) : advC now n r = r := by cases n with | zero => rfl | succ n => simp only [advC, h]
theorem advQ_some {now n j : Nat} {r : RS} {z : Wp} (h : r.soon now = some j) (hz : r.Q[j]? = some z) : advQ now (n + 1) r = advQ now n ((r.leave z.1).tell 4 z.1 (-1)) := by simp only [advQ, h, hz]
theorem advC_some {now n j : Nat} {r : RS} {z : Cr} (h : r.oldest now = some j) (hz : r.R[j]? = some z) : advC now (n + 1) r = advC now n (((r.without j).tell 5 (-1) z.num).next) := by simp only [advC, h, hz]
theorem rleave_lt {r : RS} {z : Wp} (h : z ∈ r.Q) : (r.leave z.1).Q.length < r.Q.length := by
  show (r.Q.filter fun x => decide (x.1 ≠ z.1)).length < _
  rw [List.length_filter_lt_length_iff_exists]
  exact ⟨z, h, by simp⟩
theorem withStep_form (c : Cr) (p : List Cr × Bool) (y : Cr) : ∃ a b, (withStep c p y).1 = p.1 ++ a ++ b ∧ (a = [] ∨ a = [c]) ∧ (b = [] ∨ b = [y]) := by
  obtain ⟨l, d⟩ := p
  refine ⟨if d = false ∧ c.num ≤ y.num then [c] else [], if y.num ≠ c.num then [y] else [], ?_, ?_, ?_⟩
  · unfold withStep
    by_cases h1 : d = false ∧ c.num ≤ y.num
    · by_cases h2 : y.num ≠ c.num
      · simp only [if_pos h1, if_pos h2]
      · simp only [if_pos h1, if_neg h2, List.append_nil]
    · by_cases h2 : y.num ≠ c.num
      · simp only [if_neg h1, if_pos h2, List.append_nil]
      · simp only [if_neg h1, if_neg h2, List.append_nil]
  · split <;> simp
  · split <;> simp
theorem mem_withR {c x : Cr} {R : List Cr} (h : x ∈ withR R c) : x ∈ R ∨ x = c := by
  have key : ∀ (R : List Cr) (p : List Cr × Bool), x ∈ (R.foldl (withStep c) p).1 → x ∈ p.1 ∨ x ∈ R ∨ x = c := by
    intro R
    induction R with
    | nil => intro p h; exact .inl h
    | cons y r ih =>
      intro p h
      rw [List.foldl_cons] at h
      rcases ih _ h with h | h | h
      · obtain ⟨a, b, e, ha, hb⟩ := withStep_form c p y
        rw [e, List.mem_append, List.mem_append] at h
        rcases h with (h | h) | h
        · exact .inl h
        · rcases ha with rfl | rfl
          · cases h
          · exact .inr (.inr (List.mem_singleton.1 h))
        · rcases hb with rfl | rfl
          · cases h
          · exact .inr (.inl (by rw [List.mem_singleton.1 h]; exact List.mem_cons_self))
      · exact .inr (.inl (List.mem_cons_of_mem _ h))
      · exact .inr (.inr h)
  unfold withR at h
  split at h
  · rcases key R ([], false) h with h | h | h
    · cases h
    · exact .inl h
    · exact .inr h
  · rcases List.mem_append.1 h with h | h
    · rcases key R ([], false) h with h | h | h
      · cases h
      · exact .inl h
      · exact .inr h
    · exact .inr (List.mem_singleton.1 h)
theorem cnt_withR (t : Int) {c : Cr} (R : List Cr) (hc : c.st ≠ t) : (withR R c).countP (fun x => decide (x.st = t)) ≤ R.countP (fun x => decide (x.st = t)) := by
  have key : ∀ (R : List Cr) (p : List Cr × Bool), (R.foldl (withStep c) p).1.countP (fun x => decide (x.st = t)) ≤ p.1.countP (fun x => decide (x.st = t)) + R.countP (fun x => decide (x.st = t)) := by
    intro R
    induction R with
    | nil => intro p; exact Nat.le_refl _
    | cons y r ih =>
      intro p
      rw [List.foldl_cons, List.countP_cons]
      have h1 := ih (withStep c p y)
      have h2 : (withStep c p y).1.countP (fun x => decide (x.st = t)) ≤ p.1.countP (fun x => decide (x.st = t)) + (if decide (y.st = t) = true then 1 else 0) := by
        obtain ⟨a, b, e, ha, hb⟩ := withStep_form c p y
        rw [e, List.countP_append, List.countP_append]
        have h3 : a.countP (fun x => decide (x.st = t)) = 0 := by rcases ha with rfl | rfl <;> simp [hc]
        have h4 : b.countP (fun x => decide (x.st = t)) ≤ (if decide (y.st = t) = true then 1 else 0) := by
          rcases hb with rfl | rfl
          · exact Nat.zero_le _
          · rw [List.countP_cons, List.countP_nil, Nat.zero_add]; exact Nat.le_refl _
        omega
      omega
  have h9 := key R ([], false)
  simp only [List.countP_nil, Nat.zero_add] at h9
  unfold withR
  split
  · exact h9
  · rw [List.countP_append, List.countP_cons, List.countP_nil]; simp [hc]; exact h9
theorem rnext_cnt (r : RS) (t : Int) (ht : (1 : Int) ≠ t) : r.next.cnt t ≤ r.cnt t := by
  unfold RS.next
  cases r.Q with
  | nil => exact Nat.le_refl _
  | cons x q =>
    dsimp only
    split
    · exact Nat.le_refl _
    · exact cnt_withR t r.R ht
theorem rnext_since {r : RS} {now : Nat} (h : ∀ x ∈ r.R, x.since ≤ now) : ∀ x ∈ r.next.R, x.since ≤ now := by
  unfold RS.next
  cases r.Q with
  | nil => exact h
  | cons y q =>
    dsimp only
    split
    · exact h
    · intro x hx
      rcases mem_withR (show x ∈ withR r.R ⟨_, 1, y.1, 0⟩ from hx) with hx | rfl
      · exact h x hx
      · exact Nat.zero_le _
theorem rnext_keep (r : RS) : r.next.keep = r.keep := by
  unfold RS.next
  cases r.Q with
  | nil => rfl
  | cons x q => dsimp only; split <;> rfl
theorem rnext_E (r : RS) : r.next.E.length ≤ r.E.length + 1 := by
  unfold RS.next
  cases r.Q with
  | nil => exact Nat.le_succ _
  | cons x q =>
    dsimp only
    split
    · exact Nat.le_succ _
    · show (r.E ++ [_]).length ≤ _; rw [List.length_append]; exact Nat.le_refl _
theorem without_cnt {r : RS} {j : Nat} {z : Cr} (t : Int) (hz : r.R[j]? = some z) (ht : z.st = t) : (r.without j).cnt t + 1 = r.cnt t := by
  obtain ⟨g1, g2⟩ := List.getElem?_eq_some_iff.1 hz
  have hR : r.R = r.R.take j ++ z :: r.R.drop (j + 1) := by rw [← g2, ← List.drop_eq_getElem_cons g1, List.take_append_drop]
  show (r.R.take j ++ r.R.drop (j + 1)).countP (fun x => decide (x.st = t)) + 1 = r.R.countP (fun x => decide (x.st = t))
  rw [show r.R.countP (fun x => decide (x.st = t)) = (r.R.take j ++ z :: r.R.drop (j + 1)).countP (fun x => decide (x.st = t)) from by rw [← hR], List.countP_append, List.countP_append, List.countP_cons, if_pos (by simpa using ht)]
  omega
theorem without_mem {r : RS} {j : Nat} {x : Cr} (h : x ∈ (r.without j).R) : x ∈ r.R := by
  rcases List.mem_append.1 (show x ∈ r.R.take j ++ r.R.drop (j + 1) from h) with h | h
  · exact List.mem_of_mem_take h
  · exact List.mem_of_mem_drop h
structure SlW where
  k : Nat
  o : Option Nat
structure AvW where
  n : Nat
  M : MM
  r : RS
structure AvQ (r : RS) (now : Nat) (y : AvW) : Prop where
  le : y.r.Q.length ≤ y.n
  eq : advQ now y.n y.r = advQ now r.Q.length (r.at_ now)
  is : MIs y.M y.r
  el : y.r.E.length + y.n ≤ 61001
  R : y.r.R = r.R
  keep : y.r.keep = r.keep
structure AvC (r : RS) (now : Nat) (y : AvW) : Prop where
  le : y.r.cnt 3 ≤ y.n
  eq : r.keep ≠ 18446744073709551615 → advC now y.n y.r = advC now r.R.length (advQ now r.Q.length (r.at_ now))
  eq2 : r.keep = 18446744073709551615 → y.r = advQ now r.Q.length (r.at_ now)
  is : MIs y.M y.r
  el : y.r.E.length + 2 * y.n ≤ 62001
  si : ∀ x ∈ y.r.R, x.since ≤ now
  keep : y.r.keep = r.keep
theorem AvQ.step {r : RS} {now n j : Nat} {M M2 : MM} {r2 : RS} {z : Wp} (h : AvQ r now ⟨n + 1, M, r2⟩) (hs : r2.soon now = some j) (hz : r2.Q[j]? = some z) (hm : MIs M2 ((r2.leave z.1).tell 4 z.1 (-1))) : AvQ r now ⟨n, M2, (r2.leave z.1).tell 4 z.1 (-1)⟩ where
  le := by have := rleave_lt (List.mem_of_getElem? hz); have h9 := h.le; dsimp only at h9 ⊢; show (r2.leave z.1).Q.length ≤ n; omega
  eq := by rw [← h.eq]; exact (advQ_some hs hz).symm
  is := hm
  el := by have h9 := h.el; dsimp only at h9 ⊢; show (r2.E ++ [_]).length + n ≤ _; rw [List.length_append, List.length_singleton]; omega
  R := h.R
  keep := h.keep
theorem AvQ.end_ {r : RS} {now : Nat} {y : AvW} (h : AvQ r now y) (hs : y.r.soon now = none) : y.r = advQ now r.Q.length (r.at_ now) := by rw [← h.eq, advQ_none hs]
theorem AvC.begin {r : RS} {now : Nat} {y : AvW} (h : AvQ r now y) (hs : y.r.soon now = none) (hl : r.R.length ≤ 64) (hE : y.r.E.length ≤ 61001) (hsi : ∀ x ∈ r.R, x.since ≤ now) : AvC r now ⟨r.R.length, y.M, y.r⟩ where
  le := by show y.r.R.countP _ ≤ _; rw [h.R]; exact List.countP_le_length
  eq := fun _ => by rw [← h.end_ hs]
  eq2 := fun _ => h.end_ hs
  is := h.is
  el := by dsimp only; omega
  si := by rw [h.R]; exact hsi
  keep := h.keep
theorem AvC.step {r : RS} {now n j : Nat} {M M2 : MM} {r2 : RS} {z : Cr} (h : AvC r now ⟨n + 1, M, r2⟩) (hk : r2.keep ≠ 18446744073709551615) (hs : r2.oldest now = some j) (hz : r2.R[j]? = some z) (h3 : z.st = 3) (hm : MIs M2 (((r2.without j).tell 5 (-1) z.num).next)) : AvC r now ⟨n, M2, ((r2.without j).tell 5 (-1) z.num).next⟩ where
  le := by
    have h9 := h.le
    have h8 := without_cnt 3 hz h3
    have h7 := rnext_cnt ((r2.without j).tell 5 (-1) z.num) 3 (by decide)
    have h6 : ((r2.without j).tell 5 (-1) z.num).cnt 3 = (r2.without j).cnt 3 := rfl
    dsimp only at h9 ⊢; omega
  eq := fun e => by rw [← h.eq e]; exact (advC_some hs hz).symm
  eq2 := fun e => absurd (h.keep.trans e) hk
  is := hm
  el := by
    have h9 := h.el
    have h7 := rnext_E ((r2.without j).tell 5 (-1) z.num)
    have h6 : ((r2.without j).tell 5 (-1) z.num).E.length = r2.E.length + 1 := by show (r2.E ++ [_]).length = _; rw [List.length_append]; rfl
    dsimp only at h9 ⊢; omega
  si := rnext_since fun x hx => h.si x (without_mem hx)
  keep := (rnext_keep _).trans h.keep
theorem AvQ.step2 {r : RS} {now j : Nat} {y : AvW} {M2 : MM} {z : Wp} (h : AvQ r now y) (hs : y.r.soon now = some j) (hz : y.r.Q[j]? = some z) (hm : MIs M2 ((y.r.leave z.1).tell 4 z.1 (-1))) : AvQ r now ⟨y.n - 1, M2, (y.r.leave z.1).tell 4 z.1 (-1)⟩ ∧ y.n - 1 < y.n := by
  have h1 := (List.getElem?_eq_some_iff.1 hz).1
  have h2 := h.le
  obtain ⟨n, M, r2⟩ := y
  cases n with
  | zero => dsimp only at h1 h2; omega
  | succ n => exact ⟨h.step hs hz hm, Nat.lt_succ_self _⟩
theorem AvC.step2 {r : RS} {now j : Nat} {y : AvW} {M2 : MM} {z : Cr} (h : AvC r now y) (hk : y.r.keep ≠ 18446744073709551615) (hs : y.r.oldest now = some j) (hz : y.r.R[j]? = some z) (h3 : z.st = 3) (hm : MIs M2 (((y.r.without j).tell 5 (-1) z.num).next)) : AvC r now ⟨y.n - 1, M2, ((y.r.without j).tell 5 (-1) z.num).next⟩ ∧ y.n - 1 < y.n := by
  have h1 := without_cnt 3 hz h3
  have h2 := h.le
  obtain ⟨n, M, r2⟩ := y
  cases n with
  | zero => dsimp only at h1 h2; omega
  | succ n => exact ⟨h.step hk hs hz h3 hm, Nat.lt_succ_self _⟩
theorem AvC.done1 {r : RS} {now : Nat} {y : AvW} (h : AvC r now y) (hm : ¬ r.may true now ≠ 0) (hk : y.r.keep = 18446744073709551615) : r.adv now = (y.r, 0) := by
  have e := h.keep.symm.trans hk
  unfold RS.adv advA
  rw [if_neg hm, if_pos e, h.eq2 e]
theorem AvC.done2 {r : RS} {now : Nat} {y : AvW} (h : AvC r now y) (hm : ¬ r.may true now ≠ 0) (hk : y.r.keep ≠ 18446744073709551615) (hs : y.r.oldest now = none) : r.adv now = (y.r, 0) := by
  have e : r.keep ≠ 18446744073709551615 := fun e => hk (h.keep.trans e)
  unfold RS.adv advA
  rw [if_neg hm, if_neg e, ← h.eq e, advC_none hs]
theorem ra_bad {r : RS} {now : Nat} (h : r.may true now ≠ 0) : r.adv now = (r, r.may true now) := by unfold RS.adv; rw [if_pos h]
theorem ra_now {r : RS} {now : Nat} (h : ¬ r.may true now ≠ 0) : r.now ≤ now := by
  unfold RS.may at h
  rw [if_neg (by decide)] at h
  by_cases e : now < r.now ∨ now = 18446744073709551615
  · rw [if_pos e] at h; exact absurd (by decide) h
  · omega
end Go.Proofs.Yteofigbgdbpjgaa
end
section
set_option linter.unusedVariables false
set_option maxRecDepth 20000
namespace Go.Proofs.Yteofigbgdbpjgaa
def rcF : Nat → List Cn → List Cr
  | _, [] => []
  | k, x :: r => if x.st = 0 then rcF (k + 1) r else ⟨(k : Int), x.st, x.who, x.since⟩ :: rcF (k + 1) r
theorem rcF_0 {k : Nat} {x : Cn} {r : List Cn} (h : x.st = 0) : rcF k (x :: r) = rcF (k + 1) r := by rw [rcF, if_pos h]
theorem rcF_1 {k : Nat} {x : Cn} {r : List Cn} (h : x.st ≠ 0) : rcF k (x :: r) = ⟨(k : Int), x.st, x.who, x.since⟩ :: rcF (k + 1) r := by rw [rcF, if_neg h]
abbrev qpF (Q : List Qp) : List Wp := Q.map fun x => (x.who, x.dl)
/-- What the document says of a pool, ars the law's model of it. -/
def rsOf (s : PS) : RS := ⟨s.op, s.most, s.keep, s.now, rcF 0 s.C, qpF s.Q, s.E⟩
theorem rcF_ge : ∀ {C : List Cn} {k : Nat} {z : Cr}, z ∈ rcF k C → (k : Int) ≤ z.num
  | [], _, _, h => by cases h
  | x :: r, k, z, h => by
    unfold rcF at h
    split at h
    · have := rcF_ge h; omega
    · rcases List.mem_cons.1 h with rfl | h
      · exact Int.le_refl _
      · have := rcF_ge h; omega
theorem rcF_mem : ∀ {C : List Cn} {k : Nat} {z : Cr}, z ∈ rcF k C → ∃ (i : Nat) (x : Cn), C[i]? = some x ∧ x.st ≠ 0 ∧ z = ⟨((k + i : Nat) : Int), x.st, x.who, x.since⟩
  | [], _, _, h => by cases h
  | x :: r, k, z, h => by
    unfold rcF at h
    have rec2 : z ∈ rcF (k + 1) r → ∃ (i : Nat) (y : Cn), (x :: r)[i]? = some y ∧ y.st ≠ 0 ∧ z = ⟨((k + i : Nat) : Int), y.st, y.who, y.since⟩ := fun h => by
      obtain ⟨i, y, h1, h2, h3⟩ := rcF_mem h
      exact ⟨i + 1, y, by simpa using h1, h2, by rw [h3, show k + 1 + i = k + (i + 1) from by omega]⟩
    split at h
    · exact rec2 h
    · rename_i hx
      rcases List.mem_cons.1 h with rfl | h
      · exact ⟨0, x, rfl, hx, rfl⟩
      · exact rec2 h
theorem rcF_in : ∀ {C : List Cn} {k i : Nat} {x : Cn}, C[i]? = some x → x.st ≠ 0 → (⟨((k + i : Nat) : Int), x.st, x.who, x.since⟩ : Cr) ∈ rcF k C
  | [], _, _, _, h, _ => by simp at h
  | y :: r, k, 0, x, h, hx => by
    simp at h; subst h
    unfold rcF; rw [if_neg hx]; exact List.mem_cons_self ..
  | y :: r, k, i + 1, x, h, hx => by
    have ih := rcF_in (k := k + 1) (i := i) (x := x) (C := r) (by simpa using h) hx
    rw [show k + 1 + i = k + (i + 1) from by omega] at ih
    unfold rcF
    split
    · exact ih
    · exact List.mem_cons_of_mem _ ih
theorem rcF_srt : ∀ (C : List Cn) (k : Nat), (rcF k C).Pairwise (fun a b => a.num < b.num)
  | [], _ => .nil
  | x :: r, k => by
    unfold rcF
    split
    · exact rcF_srt r (k + 1)
    · refine List.pairwise_cons.2 ⟨fun b hb => ?_, rcF_srt r (k + 1)⟩
      have := rcF_ge hb
      show (k : Int) < b.num
      omega
theorem rcF_cnt {t : Int} (ht : t ≠ 0) : ∀ (C : List Cn) (k : Nat), (rcF k C).countP (fun x => decide (x.st = t)) = (allF t k C).length
  | [], _ => rfl
  | x :: r, k => by
    have ih := rcF_cnt ht r (k + 1)
    unfold rcF allF
    by_cases h0 : x.st = 0
    · rw [if_pos h0, if_neg (by omega)]; exact ih
    · rw [if_neg h0, List.countP_cons, ih]
      by_cases h1 : x.st = t <;> simp [h1]
theorem rcF_len : ∀ (C : List Cn) (k : Nat), (rcF k C).length + (allF 0 k C).length = C.length
  | [], _ => rfl
  | x :: r, k => by
    have ih := rcF_len r (k + 1)
    unfold rcF allF
    by_cases h0 : x.st = 0
    · rw [if_pos h0, if_pos h0, List.length_cons, List.length_cons]; omega
    · rw [if_neg h0, if_neg h0, List.length_cons, List.length_cons]; omega
theorem freeR_lt {R : List Cr} {k : Nat} (h : ∀ z ∈ R, (k : Int) < z.num) : freeR R k = k := by
  cases R with
  | nil => rfl
  | cons x r =>
    have := h x (List.mem_cons_self ..)
    unfold freeR; rw [if_neg (by omega)]
theorem rcF_free : ∀ (C : List Cn) (k : Nat) (a : Int) (l : List Int), allF 0 k C = a :: l → (freeR (rcF k C) k : Int) = a
  | [], _, _, _, h => by cases h
  | x :: r, k, a, l, h => by
    unfold allF at h
    unfold rcF
    by_cases h0 : x.st = 0
    · rw [if_pos h0] at h ⊢
      rw [freeR_lt fun z hz => by have := rcF_ge hz; omega]
      exact (List.cons.inj h).1
    · rw [if_neg h0] at h ⊢
      unfold freeR
      rw [if_pos rfl]
      exact rcF_free r (k + 1) a l h
def rinsR (c : Cr) : List Cr → List Cr
  | [] => [c]
  | x :: r => if x.num < c.num then x :: rinsR c r else c :: (x :: r).filter (fun z => decide (z.num ≠ c.num))
theorem withF_done (c : Cr) : ∀ (R : List Cr) (l : List Cr), R.foldl (withStep c) (l, true) = (l ++ R.filter (fun z => decide (z.num ≠ c.num)), true)
  | [], l => by simp
  | x :: r, l => by
    rw [List.foldl_cons]
    by_cases h : x.num = c.num
    · rw [show withStep c (l, true) x = (l, true) from by simp [withStep, h], withF_done c r l, List.filter_cons_of_neg (by simp [h])]
    · rw [show withStep c (l, true) x = (l ++ [x], true) from by simp [withStep, h], withF_done c r, List.filter_cons_of_pos (by simp [h]), List.append_assoc]; rfl
theorem withF_ins (c : Cr) : ∀ (R : List Cr) (l : List Cr), (if (R.foldl (withStep c) (l, false)).2 = true then (R.foldl (withStep c) (l, false)).1 else (R.foldl (withStep c) (l, false)).1 ++ [c]) = l ++ rinsR c R
  | [], l => by simp [rinsR]
  | x :: r, l => by
    rw [List.foldl_cons]
    unfold rinsR
    by_cases h : x.num < c.num
    · rw [show withStep c (l, false) x = (l ++ [x], false) from by
        have h1 : ¬ c.num ≤ x.num := by omega
        have h2 : x.num ≠ c.num := by omega
        simp [withStep, h1, h2], withF_ins c r, if_pos h, List.append_assoc]; rfl
    · rw [if_neg h]
      by_cases h2 : x.num = c.num
      · rw [show withStep c (l, false) x = (l ++ [c], true) from by simp [withStep, h2], withF_done, if_pos rfl, List.filter_cons_of_neg (by simp [h2]), List.append_assoc]; rfl
      · rw [show withStep c (l, false) x = (l ++ [c] ++ [x], true) from by
          have h1 : c.num ≤ x.num := by omega
          simp [withStep, h1, h2], withF_done, if_pos rfl, List.filter_cons_of_pos (by simp [h2]), List.append_assoc, List.append_assoc]; rfl
theorem withR_ins (c : Cr) (R : List Cr) : withR R c = rinsR c R := by
  have := withF_ins c R []
  rw [List.nil_append] at this
  exact this
theorem flt_ge {c : Cr} {R : List Cr} (h : ∀ z ∈ R, c.num < z.num) : R.filter (fun z => decide (z.num ≠ c.num)) = R := List.filter_eq_self.2 fun z hz => by have := h z hz; simp; omega
theorem rinsR_ge {c : Cr} {R : List Cr} (h : ∀ z ∈ R, c.num ≤ z.num) : rinsR c R = c :: R.filter (fun z => decide (z.num ≠ c.num)) := by
  cases R with
  | nil => rfl
  | cons x r =>
    have := h x (List.mem_cons_self ..)
    unfold rinsR; rw [if_neg (by omega)]
theorem rcF_set {y : Cn} (hy : y.st ≠ 0) : ∀ (C : List Cn) (k i : Nat), i < C.length → rinsR ⟨((k + i : Nat) : Int), y.st, y.who, y.since⟩ (rcF k C) = rcF k (C.set i y)
  | [], _, _, h => by simp at h
  | x :: r, k, 0, _ => by
    have hge : ∀ z ∈ rcF (k + 1) r, (k : Int) < z.num := fun z hz => by have := rcF_ge hz; omega
    rw [List.set_cons_zero, rcF_1 hy, rinsR_ge (fun z hz => by have := rcF_ge hz; show ((k + 0 : Nat) : Int) ≤ _; omega)]
    congr 1
    by_cases h0 : x.st = 0
    · rw [rcF_0 h0]; exact flt_ge hge
    · rw [rcF_1 h0, List.filter_cons_of_neg (by simp)]; exact flt_ge hge
  | x :: r, k, i + 1, h => by
    have ih := rcF_set hy r (k + 1) i (by simpa using h)
    rw [show k + 1 + i = k + (i + 1) from by omega] at ih
    rw [List.set_cons_succ]
    by_cases h0 : x.st = 0
    · rw [rcF_0 h0, rcF_0 h0]; exact ih
    · rw [rcF_1 h0, rcF_1 h0, ← ih, rinsR, if_pos (by show (k : Int) < ((k + (i + 1) : Nat) : Int); omega)]
theorem rcF_gone : ∀ (C : List Cn) (k i : Nat), rcF k (C.set i ⟨0, 0, 0⟩) = (rcF k C).filter (fun z => decide (z.num ≠ ((k + i : Nat) : Int)))
  | [], _, _ => rfl
  | x :: r, k, 0 => by
    rw [List.set_cons_zero, rcF_0 rfl]
    have hge : (rcF (k + 1) r).filter (fun z => decide (z.num ≠ ((k + 0 : Nat) : Int))) = rcF (k + 1) r := List.filter_eq_self.2 fun z hz => by have := rcF_ge hz; simp; omega
    by_cases h0 : x.st = 0
    · rw [rcF_0 h0]; exact hge.symm
    · rw [rcF_1 h0, List.filter_cons_of_neg (by simp)]; exact hge.symm
  | x :: r, k, i + 1 => by
    have ih := rcF_gone r (k + 1) i
    rw [show k + 1 + i = k + (i + 1) from by omega] at ih
    rw [List.set_cons_succ]
    by_cases h0 : x.st = 0
    · rw [rcF_0 h0, rcF_0 h0]; exact ih
    · rw [rcF_1 h0, rcF_1 h0, List.filter_cons_of_pos (by simp; omega), ih]
theorem cut_flt : ∀ {R : List Cr} {j : Nat} {z : Cr}, R.Pairwise (fun a b => a.num < b.num) → R[j]? = some z → R.take j ++ R.drop (j + 1) = R.filter (fun x => decide (x.num ≠ z.num))
  | [], _, _, _, h => by simp at h
  | x :: r, 0, z, hs, h => by
    simp at h; subst h
    obtain ⟨h1, _⟩ := List.pairwise_cons.1 hs
    rw [List.filter_cons_of_neg (by simp)]
    exact (flt_ge (c := x) h1).symm
  | x :: r, j + 1, z, hs, h => by
    obtain ⟨h1, h2⟩ := List.pairwise_cons.1 hs
    have hz : r[j]? = some z := by simpa using h
    have := h1 z (List.mem_of_getElem? hz)
    rw [List.filter_cons_of_pos (by simp; omega), List.take_succ_cons, List.cons_append, List.drop_succ_cons, cut_flt h2 hz]
theorem findR_mem {num t : Int} : ∀ {R : List Cr}, (∃ y ∈ R, y.num = num ∧ y.st = t) → ¬ findR num t R < 0
  | [], h => by obtain ⟨y, hy, _⟩ := h; cases hy
  | x :: r, h => by
    unfold findR
    by_cases e : x.num = num ∧ x.st = t
    · rw [if_pos e]; decide
    · rw [if_neg e]
      obtain ⟨y, hy, hc⟩ := h
      rcases List.mem_cons.1 hy with rfl | hy
      · exact absurd hc e
      · have ih := findR_mem ⟨y, hy, hc⟩
        rw [if_neg (by omega)]; omega
section
variable {s : PS}
theorem ro_cnt {t : Int} (ht : t ≠ 0) : (rsOf s).cnt t = s.cnt t := rcF_cnt ht s.C 0
theorem ro_room (hc : s.C.length = 64) : (rsOf s).R.length < s.op ↔ s.room = true := by
  have h := rcF_len s.C 0
  show (rcF 0 s.C).length < s.op ↔ decide (64 - (allF 0 0 s.C).length < s.op) = true
  rw [decide_eq_true_eq]; omega
theorem ro_free (hr : allI 0 s.C ≠ []) : ((rsOf s).free : Int) = (s.free : Int) := by
  have hf := (PS.free_of hr).1
  cases e : allI 0 s.C with
  | nil => exact absurd e hr
  | cons a l =>
    rw [e] at hf
    have h1 := rcF_free s.C 0 a l e
    simp only [List.getElem?_cons_zero, Option.some.injEq] at hf
    exact h1.trans hf
theorem ro_set {i : Nat} {y : Cn} (hi : i < s.C.length) (hy : y.st ≠ 0) : (rsOf s).with_ ⟨(i : Int), y.st, y.who, y.since⟩ = rsOf (s.set i y) := by
  have h := rcF_set hy s.C 0 i hi
  rw [Nat.zero_add] at h
  show ({ rsOf s with R := withR (rcF 0 s.C) _ } : RS) = { rsOf s with R := rcF 0 (s.C.set i y) }
  rw [withR_ins, h]
theorem ro_gone {i j : Nat} {z : Cr} (hz : (rsOf s).R[j]? = some z) (hn : z.num = (i : Int)) : (rsOf s).without j = rsOf (s.set i ⟨0, 0, 0⟩) := by
  have h := rcF_gone s.C 0 i
  rw [Nat.zero_add, ← hn] at h
  have h2 := cut_flt (rcF_srt s.C 0) hz
  show ({ rsOf s with R := (rcF 0 s.C).take j ++ (rcF 0 s.C).drop (j + 1) } : RS) = { rsOf s with R := rcF 0 (s.C.set i ⟨0, 0, 0⟩) }
  rw [h, h2]
theorem ro_at (now : Nat) : (rsOf s).at_ now = rsOf (s.at_ now) := rfl
theorem ro_tell (k who c : Int) : (rsOf s).tell k who c = rsOf (s.tell k who c) := rfl
theorem ro_leave (who : Int) : (rsOf s).leave who = rsOf (s.leave who) := by
  have h : (qpF s.Q).filter (fun x => decide (x.1 ≠ who)) = qpF (s.Q.filter fun x => decide (x.who ≠ who)) := by
    unfold qpF
    rw [List.filter_map]; rfl
  unfold RS.leave rsOf
  dsimp only
  rw [h]; rfl
theorem ro_waits (who : Int) : (rsOf s).waits who = s.waits who := by
  cases e : s.waits who with
  | true =>
    obtain ⟨x, hx, hw⟩ := List.any_eq_true.1 (show (s.Q.any fun x => decide (x.who = who)) = true from e)
    have hw := of_decide_eq_true hw
    have hm : (x.who, x.dl) ∈ (rsOf s).Q := List.mem_map_of_mem (f := fun x : Qp => (x.who, x.dl)) hx
    have := rleave_lt hm
    rw [show ((x.who, x.dl) : Wp).1 = who from hw] at this
    exact decide_eq_true this
  | false =>
    have h9 := List.any_eq_false.1 (show (s.Q.any fun x => decide (x.who = who)) = false from e)
    refine decide_eq_false ?_
    rw [ro_leave]
    show ¬ (qpF (s.leave who).Q).length < (qpF s.Q).length
    rw [show (s.leave who).Q = s.Q from List.filter_eq_self.2 fun x hx => by have := h9 x hx; simp only [decide_eq_true_eq] at this; exact decide_eq_true this]
    exact Nat.lt_irrefl _
end
end Go.Proofs.Yteofigbgdbpjgaa
end
section
set_option linter.unusedVariables false
set_option maxRecDepth 20000
namespace Go.Proofs.Yteofigbgdbpjgaa
/-- A pool ars it can be. -/
structure PW (s : PS) : Prop where
  ph : PH s
  nd : (s.Q.map (·.who)).Nodup
  qk : Qk (fq s.Q) s.n
  si : ∀ x ∈ s.C, x.since ≤ s.now
theorem PIs.pw {m : PM} {s : PS} (h : PIs m s) (hp : PH s) : PW s := ⟨hp, h.nd, h.qk, h.since⟩
theorem PS.leave_pop {s : PS} {x : Qp} {r : List Qp} (hQ : s.Q = x :: r) (hn : (s.Q.map (·.who)).Nodup) : s.leave x.who = s.pop := by
  have h := leave_eq (s := s) (A := []) (B := r) hQ hn
  rw [h]
  unfold PS.pop; rw [hQ]; rfl
section
variable {s : PS}
theorem ro_dial (hl : s.C.length = 64) (hop : s.op ≤ 64) (hr : s.room = true) (who : Int) : (rsOf s).dial who = rsOf (s.dial who) := by
  have hne := PS.room_ne hr hl hop
  have h := ro_set (s := s) (i := s.free) (y := ⟨1, who, 0⟩) (PS.free_of hne).2.1 (show (1 : Int) ≠ 0 by decide)
  unfold RS.dial PS.dial
  rw [ro_free hne]
  exact h
theorem ro_next (hl : s.C.length = 64) (hop : s.op ≤ 64) (hn : (s.Q.map (·.who)).Nodup) : (rsOf s).next = rsOf s.next := by
  cases hQ : s.Q with
  | nil =>
    rw [rnext_none (.inl (by show (qpF s.Q).length = 0; rw [hQ]; rfl))]
    unfold PS.next; rw [hQ]
  | cons x r =>
    cases hr : s.room with
    | false =>
      rw [rnext_none (.inr (by have := mt (ro_room hl).1 (by rw [hr]; decide); show s.op ≤ (rsOf s).R.length; omega))]
      unfold PS.next; rw [hQ]; dsimp only; rw [if_neg (by rw [hr]; decide)]
    | true =>
      have h1 := (ro_room hl).2 hr
      rw [rnext_some (x := (x.who, x.dl)) (by show (qpF s.Q)[0]? = _; rw [hQ]; rfl) (by show ¬ s.op ≤ _; omega)]
      show (((rsOf s).leave x.who).dial x.who).tell 2 x.who (((rsOf s).leave x.who).free : Int) = _
      rw [ro_leave, PS.leave_pop hQ hn, ro_dial (s := s.pop) hl hop hr, ro_free (s := s.pop) (PS.room_ne hr hl hop), ro_tell]
      unfold PS.next; rw [hQ]; dsimp only; rw [if_pos hr]; rfl
theorem ro_lose {i j : Nat} {z : Cr} (hl : s.C.length = 64) (hop : s.op ≤ 64) (hn : (s.Q.map (·.who)).Nodup) (hz : (rsOf s).R[j]? = some z) (hi : z.num = (i : Int)) : ((rsOf s).without j).next = rsOf (s.lose i) := by
  rw [ro_gone hz hi, ro_next (s := s.set i ⟨0, 0, 0⟩) (by show (s.C.set i _).length = 64; rw [List.length_set]; exact hl) hop hn]; rfl
theorem ro_find {c st : Int} {now : Nat} (hl : s.C.length = 64) (hst : st ≠ 0) (hm : s.may (decide (0 ≤ c)) now = 0) : findR c st (rsOf s).R < 0 ↔ s.inE c st now ≠ 0 := by
  have h0 : 0 ≤ c := of_decide_eq_true (may_zero hm).1
  constructor
  · intro h he
    obtain ⟨k, x, rfl, hk, hx, hxs, _⟩ := inE_zero he
    refine findR_mem ?_ h
    have := rcF_in (k := 0) hx (by rw [hxs]; exact hst)
    rw [Nat.zero_add] at this
    exact ⟨_, this, rfl, hxs⟩
  · intro he
    refine Decidable.byContradiction fun h => he ?_
    obtain ⟨z, hz, h1, h2⟩ := findR_pos h
    obtain ⟨i, x, hx, hx0, rfl⟩ := rcF_mem (List.mem_of_getElem? hz)
    dsimp only at h1 h2
    have hi := (List.getElem?_eq_some_iff.1 hx).1
    refine inE_ok hm fun e => ?_
    rcases e with e | e
    · omega
    · apply e
      rw [show c.toNat = i from by omega, hx]
      exact congrArg some h2
theorem ro_dialed (h : PW s) (c : Int) (made : Bool) (now : Nat) : (rsOf s).dialed c made now = (rsOf (s.dialed c made now), s.inE c 1 now) := by
  by_cases hm : s.may (decide (0 ≤ c)) now = 0
  · have hm2 : ¬ (rsOf s).may (decide (0 ≤ c)) now ≠ 0 := fun e => e hm
    have hf := ro_find (st := 1) h.ph.len (by decide) hm
    by_cases he : s.inE c 1 now = 0
    · have hf2 : ¬ findR c 1 (rsOf s).R < 0 := fun e => hf.1 e he
      obtain ⟨k, x, rfl, hk, hx, hxs, _⟩ := inE_zero he
      rw [he]
      cases made with
      | true =>
        rw [rd_made hm2 hf2 rfl, dialed_made he]
        refine congrArg (·, (0 : Int)) ?_
        exact ro_set (s := s.at_ now) (i := k) (y := ⟨2, 0, 0⟩) (by show k < s.C.length; rw [h.ph.len]; exact hk) (show (2 : Int) ≠ 0 by decide)
      | false =>
        rw [rd_lost hm2 hf2 rfl, dialed_lost he]
        obtain ⟨z, hz, h1, _⟩ := findR_pos hf2
        exact congrArg (·, (0 : Int)) (ro_lose (s := s.at_ now) h.ph.len h.ph.op h.nd hz h1)
    · rw [rd_none hm2 (hf.2 he), dialed_no he]
      rcases Decidable.em (64 ≤ c ∨ (s.C[c.toNat]?.map (·.st)) ≠ some 1) with e | e
      · rw [inE_none hm e]
      · exact absurd (inE_ok hm e) he
  · have hmr : (rsOf s).may (decide (0 ≤ c)) now ≠ 0 := hm
    rw [rd_bad hmr, inE_may hm, dialed_no (by rw [inE_may hm]; exact hm)]; rfl
theorem ro_put (h : PW s) (c : Int) (good : Bool) (now : Nat) : (rsOf s).put c good now = (rsOf (s.put c good now), s.inE c 2 now) := by
  by_cases hm : s.may (decide (0 ≤ c)) now = 0
  · have hm2 : ¬ (rsOf s).may (decide (0 ≤ c)) now ≠ 0 := fun e => e hm
    have hf := ro_find (st := 2) h.ph.len (by decide) hm
    by_cases he : s.inE c 2 now = 0
    · have hf2 : ¬ findR c 2 (rsOf s).R < 0 := fun e => hf.1 e he
      obtain ⟨k, x, rfl, hk, hx, hxs, _⟩ := inE_zero he
      obtain ⟨z, hz, h1, _⟩ := findR_pos hf2
      have hlose : (((((rsOf s).at_ now).without (findR (k : Int) 2 (rsOf s).R).toNat).tell 5 (-1) (k : Int)).next, (0 : Int)) = (rsOf (((s.at_ now).tell 5 (-1) (k : Int)).lose k), (0 : Int)) := by
        refine congrArg (·, (0 : Int)) ?_
        exact ro_lose (s := (s.at_ now).tell 5 (-1) (k : Int)) h.ph.len h.ph.op h.nd hz h1
      rw [he]
      cases good with
      | false => rw [rp_worn hm2 hf2 rfl, put_bad he]; exact hlose
      | true =>
        cases hQ : s.Q with
        | nil =>
          have hq0 : ¬ 0 < (rsOf s).Q.length := by show ¬ 0 < (qpF s.Q).length; rw [hQ]; decide
          by_cases hi : (allI 3 s.C).length < s.most
          · rw [rp_keep hm2 hf2 rfl hq0 (by rw [ro_cnt (by decide)]; exact hi), put_idle he hQ hi]
            refine congrArg (·, (0 : Int)) ?_
            exact ro_set (s := s.at_ now) (i := k) (y := ⟨3, 0, now⟩) (by show k < s.C.length; rw [h.ph.len]; exact hk) (show (3 : Int) ≠ 0 by decide)
          · rw [rp_full hm2 hf2 hq0 (by rw [ro_cnt (by decide)]; exact hi), put_over he hQ hi]; exact hlose
        | cons x r =>
          have hfi : (rsOf s).first = x.who := first_at (x := (x.who, x.dl)) (by show (qpF s.Q)[0]? = _; rw [hQ]; rfl)
          rw [rp_hand hm2 hf2 rfl (by show 0 < (qpF s.Q).length; rw [hQ]; exact Nat.succ_pos _), put_use he hQ, hfi, ro_at, ro_leave, ro_tell, PS.leave_pop (s := s.at_ now) hQ h.nd]
    · rw [rp_none hm2 (hf.2 he), put_no he]
      rcases Decidable.em (64 ≤ c ∨ (s.C[c.toNat]?.map (·.st)) ≠ some 2) with e | e
      · rw [inE_none hm e]
      · exact absurd (inE_ok hm e) he
  · have hmr : (rsOf s).may (decide (0 ≤ c)) now ≠ 0 := hm
    rw [rp_bad hmr, inE_may hm, put_no (by rw [inE_may hm]; exact hm)]; rfl
end
/-- Cancel, ars the law's step does it. -/
def RS.cancelE (r : RS) (who : Int) (now : Nat) : Int := if r.may (decide (0 ≤ who ∧ who ≤ 1000)) now ≠ 0 then r.may (decide (0 ≤ who ∧ who ≤ 1000)) now else if r.waits who = true then 0 else 9
def RS.cancel (r : RS) (who : Int) (now : Nat) : RS := if r.cancelE who now ≠ 0 then r else (r.leave who).at_ now
theorem ro_cancelE {s : PS} (who : Int) (now : Nat) : (rsOf s).cancelE who now = s.canE who now := by
  unfold RS.cancelE PS.canE; rw [ro_waits]; rfl
theorem ro_cancel {s : PS} (who : Int) (now : Nat) : (rsOf s).cancel who now = rsOf (s.cancel who now) := by
  unfold RS.cancel PS.cancel
  rw [ro_cancelE]
  by_cases h : s.canE who now ≠ 0
  · rw [if_pos h, if_pos h]
  · rw [if_neg h, if_neg h, ro_leave]; rfl
end Go.Proofs.Yteofigbgdbpjgaa
end
