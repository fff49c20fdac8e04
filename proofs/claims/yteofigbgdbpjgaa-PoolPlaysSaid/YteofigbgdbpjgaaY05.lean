/-
  Chapter 46 (pool), part RefU: contracts of functions that the laws call, each for the heap it names.
-/
import Derived.Test.YteofigbgdbpjgaaY04
import Derived.Test.YteofigbgdbpjgaaRows
section
set_option linter.unusedVariables false
set_option maxRecDepth 20000
set_option maxHeartbeats 4000000
namespace Go.Proofs.Yteofigbgdbpjgaa
theorem mdialed_ok {M : MM} {r : RS} (h : MIs M r) (hE : r.E.length ≤ 60000) (c : Int) (made : Bool) (now : Nat) : Spec Try.prog 59 [mdV M r, .int .i64 c, .bool made, .int .u64 (now : Int)] (mdH M r) (fun v H' => ∃ M', v = .tuple #[mdV M' (r.dialed c made now).1, .int .i64 (r.dialed c made now).2] ∧ H' = mdH M' (r.dialed c made now).1 ∧ MIs M' (r.dialed c made now).1) := by
  have hcl := h.cl
  have hE2 : r.E.length < 100000 := by omega
  refine Spec.of (E := [(0, mdV M r), (1, .int .i64 c), (2, .bool made), (3, .int .u64 (now : Int))]) Try.func59 rfl (by kernel_rfl) Try.ntmps59 rfl rfl (fun w => ?_)
  refine WC_seq ?_
  refine WC_region ?_
  refine WL_do rfl rfl rfl (D_box (cs := [_, _, _, _, _, _, _]) rfl rfl rfl) ?_
  rintro _ _ ⟨b1, rfl, rfl⟩
  refine WL_do rfl rfl rfl (D_alloc rfl zv58) ?_
  rintro _ _ ⟨b2, rfl, rfl⟩
  refine WL_val rfl rfl rfl (R_assign rfl rfl) ?_
  refine WL_nil ?_
  refine WQ_code ?_
  refine WC_seq ?_
  refine WC_seq ?_
  refine WC_region ?_
  refine WL_val rfl rfl rfl (R_loadA (vs := [_, _, _, _, _, _, _]) rfl ag58 rfl (mmZ) rfl (atZ)) ?_
  refine WL_val rfl rfl rfl (R_move rfl rfl) ?_
  refine WL_val rfl rfl rfl (R_geq rfl rfl rfl) ?_
  refine WL_val rfl rfl rfl (R_move rfl rfl) ?_
  refine WL_do rfl rfl rfl (D_call (mwrong_ok h (decide (0 ≤ c)) now) rfl rfl rfl rfl (pqZ)) ?_
  rintro _ _ ⟨_, ⟨rfl, rfl⟩, rfl⟩
  refine WL_val rfl rfl rfl (R_assign rfl rfl) ?_
  refine WL_nil ?_
  refine WQ_code ?_
  refine WC_seq ?_
  refine WC_region ?_
  refine WL_val rfl rfl rfl (R_move rfl rfl) ?_
  refine WL_val rfl rfl rfl (R_neq rfl rfl rfl) ?_
  refine WL_nil ?_
  refine WQ_code ?_
  refine WC_dec rfl (fun c1 => ?_) (fun c1 => ?_)
  · have hd := rd_bad (made := made) c1
    refine WC_seq ?_
    refine WC_region ?_
    refine WL_val rfl rfl rfl (R_loadA (vs := [_, _, _, _, _, _, _]) rfl ag58 rfl (mmZ) rfl (atZ)) ?_
    refine WL_val rfl rfl rfl (R_move rfl rfl) ?_
    refine WL_do0 rfl rfl (D_store (vs := [_, _, _, _, _, _, _]) rfl Try.sizeOf58 rfl rfl rfl rfl rfl (plZ) (by exact Nat.le_of_ble_eq_true rfl)) ?_
    rintro _ _ rfl
    refine WL_val rfl rfl rfl (R_assign rfl rfl) ?_
    refine WL_nil ?_
    refine WQ_code ?_
    refine WC_ret ?_
    refine WQ_ret rfl rfl (.cons (.cell (vs := [_, _, _, _, _, _, _]) rfl ag58 (mmZ) rfl (atZ)) (.cons (.tmp rfl) .nil)) rfl (by
        rw [hd]
        first | exact ⟨_, rfl, rfl, h⟩ | exact ⟨_, rfl, rfl, g3⟩ | exact ⟨_, rfl, rfl, g4⟩) (pqZ)
  · have hm := c1
    refine WC_skip ?_
    refine WQ_code ?_
    refine WC_seq ?_
    refine WC_region ?_
    refine WL_val rfl rfl rfl (R_loadA (vs := [_, _, _, _, _, _, _]) rfl ag58 rfl (mmZ) rfl (atZ)) ?_
    refine WL_val rfl rfl rfl (R_move rfl rfl) ?_
    refine WL_do rfl rfl rfl (D_call (mfind_ok h c 1) rfl rfl rfl rfl (pqZ)) ?_
    rintro _ _ ⟨_, ⟨rfl, rfl⟩, rfl⟩
    refine WL_val rfl rfl rfl (R_assign rfl rfl) ?_
    refine WL_nil ?_
    refine WQ_code ?_
    refine WC_seq ?_
    refine WC_seq ?_
    refine WC_region ?_
    refine WL_val rfl rfl rfl (R_move rfl rfl) ?_
    refine WL_val rfl rfl rfl (R_lss rfl rfl rfl) ?_
    refine WL_nil ?_
    refine WQ_code ?_
    refine WC_dec rfl (fun c2 => ?_) (fun c2 => ?_)
    · have hd := rd_none (made := made) hm c2
      refine WC_seq ?_
      refine WC_region ?_
      refine WL_val rfl rfl rfl (R_loadA (vs := [_, _, _, _, _, _, _]) rfl ag58 rfl (mmZ) rfl (atZ)) ?_
      refine WL_do0 rfl rfl (D_store (vs := [_, _, _, _, _, _, _]) rfl Try.sizeOf58 rfl rfl rfl rfl rfl (plZ) (by exact Nat.le_of_ble_eq_true rfl)) ?_
      rintro _ _ rfl
      refine WL_val rfl rfl rfl (R_assign rfl rfl) ?_
      refine WL_nil ?_
      refine WQ_code ?_
      refine WC_ret ?_
      refine WQ_ret rfl rfl (.cons (.cell (vs := [_, _, _, _, _, _, _]) rfl ag58 (mmZ) rfl (atZ)) (.cons (.tmp rfl) .nil)) rfl (by
          rw [hd]
          first | exact ⟨_, rfl, rfl, h⟩ | exact ⟨_, rfl, rfl, g3⟩ | exact ⟨_, rfl, rfl, g4⟩) (pqZ)
    · have hf := c2
      have hfl := fR_lt hf
      have hwl := withR_len_mem (c := ⟨c, 2, 0, 0⟩) (fR_mem hf)
      refine WC_skip ?_
      refine WQ_code ?_
      refine WC_seq ?_
      refine WC_region ?_
      refine WL_val rfl rfl rfl (R_move rfl rfl) ?_
      refine WL_val rfl rfl rfl (R_fieldAddr rfl fa58_3 rfl) ?_
      refine WL_do0 rfl rfl (D_store (vs := [_]) rfl Try.sizeOf28 rfl rfl rfl rfl rfl (plZ) (by exact Nat.le_of_ble_eq_true rfl)) ?_
      rintro _ _ rfl
      refine WL_nil ?_
      refine WQ_code ?_
      refine WC_seq ?_
      refine WC_seq ?_
      refine WC_region ?_
      refine WL_val rfl rfl rfl (R_move rfl rfl) ?_
      refine WL_nil ?_
      refine WQ_code ?_
      refine WC_if rfl (fun c3 => ?_) (fun c3 => ?_)
      · have hd := rd_made hm hf c3
        refine WC_seq ?_
        refine WC_region ?_
        refine WL_val rfl rfl rfl (R_loadA (vs := [_, _, _, _, _, _, _]) rfl ag58 rfl (mmZ) rfl (atZ)) ?_
        refine WL_val rfl rfl rfl (R_move rfl rfl) ?_
        refine WL_val rfl rfl rfl (R_build rfl zv139 pl139 rfl rfl) ?_
        refine WL_do rfl rfl rfl (D_call (mwith_ok (h.at_ now) ⟨c, 2, 0, 0⟩ (by show (withR r.R _).length ≤ 64; omega)) rfl rfl rfl rfl (pqZ)) ?_
        rintro _ _ ⟨_, ⟨cb3, cc3, ct3, rfl, rfl, g3⟩, rfl⟩
        refine WL_do0 rfl rfl (D_store (vs := [_, _, _, _, _, _, _]) rfl Try.sizeOf58 rfl rfl rfl rfl rfl (plZ) (by exact Nat.le_of_ble_eq_true rfl)) ?_
        rintro _ _ rfl
        refine WL_val rfl rfl rfl (R_assign rfl rfl) ?_
        refine WL_nil ?_
        refine WQ_code ?_
        refine WC_ret ?_
        refine WQ_ret rfl rfl (.cons (.cell (vs := [_, _, _, _, _, _, _]) rfl ag58 (mmZ) rfl (atZ)) (.cons (.tmp rfl) .nil)) rfl (by
            rw [hd]
            first | exact ⟨_, rfl, rfl, h⟩ | exact ⟨_, rfl, rfl, g3⟩ | exact ⟨_, rfl, rfl, g4⟩) (pqZ)
      · have hd := rd_lost hm hf c3
        refine WC_skip ?_
        refine WQ_code ?_
        refine WC_seq ?_
        refine WC_region ?_
        refine WL_val rfl rfl rfl (R_loadA (vs := [_, _, _, _, _, _, _]) rfl ag58 rfl (mmZ) rfl (atZ)) ?_
        refine WL_val rfl rfl rfl (R_move rfl rfl) ?_
        refine WL_set (s := 35) (v := .int .i64 ((findR c 1 r.R).toNat : Int)) rfl (by rw [Int.toNat_of_nonneg (by omega)]) ?_
        refine WL_do rfl rfl rfl (D_call (mwithout_ok (h.at_ now) (findR c 1 r.R).toNat hfl) rfl rfl rfl rfl (pqZ)) ?_
        rintro _ _ ⟨_, ⟨cb3, cc3, ct3, rfl, rfl, g3⟩, rfl⟩
        refine WL_do rfl rfl rfl (D_call (mnext_ok g3 hE2) rfl rfl rfl rfl (pqZ)) ?_
        rintro _ _ ⟨_, ⟨M4, rfl, rfl, g4⟩, rfl⟩
        refine WL_do0 rfl rfl (D_store (vs := [_, _, _, _, _, _, _]) rfl Try.sizeOf58 rfl rfl rfl rfl rfl (plZ) (by exact Nat.le_of_ble_eq_true rfl)) ?_
        rintro _ _ rfl
        refine WL_val rfl rfl rfl (R_assign rfl rfl) ?_
        refine WL_nil ?_
        refine WQ_code ?_
        refine WC_ret ?_
        refine WQ_ret rfl rfl (.cons (.cell (vs := [_, _, _, _, _, _, _]) rfl ag58 (mmZ) rfl (atZ)) (.cons (.tmp rfl) .nil)) rfl (by
            rw [hd]
            first | exact ⟨_, rfl, rfl, h⟩ | exact ⟨_, rfl, rfl, g3⟩ | exact ⟨_, rfl, rfl, g4⟩) (pqZ)
theorem mput_true {M : MM} {r : RS} (h : MIs M r) (hE : r.E.length ≤ 60000) (c : Int) (now : Nat) : Spec Try.prog 60 [mdV M r, .int .i64 c, .bool true, .int .u64 (now : Int)] (mdH M r) (fun v H' => ∃ M', v = .tuple #[mdV M' (r.put c true now).1, .int .i64 (r.put c true now).2] ∧ H' = mdH M' (r.put c true now).1 ∧ MIs M' (r.put c true now).1) := by
  have hcl := h.cl
  have hE2 : r.E.length < 100000 := by omega
  have hE3 : r.E.length + 1 < 100000 := by omega
  refine Spec.of (E := [(0, mdV M r), (1, .int .i64 c), (2, .bool true), (3, .int .u64 (now : Int))]) Try.func60 rfl (by kernel_rfl) Try.ntmps60 rfl rfl (fun w => ?_)
  refine WC_seq ?_
  refine WC_region ?_
  refine WL_do rfl rfl rfl (D_box (cs := [_, _, _, _, _, _, _]) rfl rfl rfl) ?_
  rintro _ _ ⟨b1, rfl, rfl⟩
  refine WL_do rfl rfl rfl (D_alloc rfl zv58) ?_
  rintro _ _ ⟨b2, rfl, rfl⟩
  refine WL_val rfl rfl rfl (R_assign rfl rfl) ?_
  refine WL_nil ?_
  refine WQ_code ?_
  refine WC_seq ?_
  refine WC_seq ?_
  refine WC_region ?_
  refine WL_val rfl rfl rfl (R_loadA (vs := [_, _, _, _, _, _, _]) rfl ag58 rfl (mmZ) rfl (atZ)) ?_
  refine WL_val rfl rfl rfl (R_move rfl rfl) ?_
  refine WL_val rfl rfl rfl (R_geq rfl rfl rfl) ?_
  refine WL_val rfl rfl rfl (R_move rfl rfl) ?_
  refine WL_do rfl rfl rfl (D_call (mwrong_ok h (decide (0 ≤ c)) now) rfl rfl rfl rfl (pqZ)) ?_
  rintro _ _ ⟨_, ⟨rfl, rfl⟩, rfl⟩
  refine WL_val rfl rfl rfl (R_assign rfl rfl) ?_
  refine WL_nil ?_
  refine WQ_code ?_
  refine WC_seq ?_
  refine WC_region ?_
  refine WL_val rfl rfl rfl (R_move rfl rfl) ?_
  refine WL_val rfl rfl rfl (R_neq rfl rfl rfl) ?_
  refine WL_nil ?_
  refine WQ_code ?_
  refine WC_dec rfl (fun c1 => ?_) (fun c1 => ?_)
  · have hd := rp_bad (good := true) c1
    refine WC_seq ?_
    refine WC_region ?_
    refine WL_val rfl rfl rfl (R_loadA (vs := [_, _, _, _, _, _, _]) rfl ag58 rfl (mmZ) rfl (atZ)) ?_
    refine WL_val rfl rfl rfl (R_move rfl rfl) ?_
    refine WL_do0 rfl rfl (D_store (vs := [_, _, _, _, _, _, _]) rfl Try.sizeOf58 rfl rfl rfl rfl rfl (plZ) (by exact Nat.le_of_ble_eq_true rfl)) ?_
    rintro _ _ rfl
    refine WL_val rfl rfl rfl (R_assign rfl rfl) ?_
    refine WL_nil ?_
    refine WQ_code ?_
    refine WC_ret ?_
    refine WQ_ret rfl rfl (.cons (.cell (vs := [_, _, _, _, _, _, _]) rfl ag58 (mmZ) rfl (atZ)) (.cons (.tmp rfl) .nil)) rfl (by
        rw [hd]
        first | exact ⟨_, rfl, rfl, h⟩ | exact ⟨_, rfl, rfl, g5⟩ | exact ⟨_, rfl, rfl, g4⟩ | exact ⟨_, rfl, rfl, g3⟩) (pqZ)
  · have hm := c1
    refine WC_skip ?_
    refine WQ_code ?_
    refine WC_seq ?_
    refine WC_region ?_
    refine WL_val rfl rfl rfl (R_loadA (vs := [_, _, _, _, _, _, _]) rfl ag58 rfl (mmZ) rfl (atZ)) ?_
    refine WL_val rfl rfl rfl (R_move rfl rfl) ?_
    refine WL_do rfl rfl rfl (D_call (mfind_ok h c 2) rfl rfl rfl rfl (pqZ)) ?_
    rintro _ _ ⟨_, ⟨rfl, rfl⟩, rfl⟩
    refine WL_val rfl rfl rfl (R_assign rfl rfl) ?_
    refine WL_nil ?_
    refine WQ_code ?_
    refine WC_seq ?_
    refine WC_seq ?_
    refine WC_region ?_
    refine WL_val rfl rfl rfl (R_move rfl rfl) ?_
    refine WL_val rfl rfl rfl (R_lss rfl rfl rfl) ?_
    refine WL_nil ?_
    refine WQ_code ?_
    refine WC_dec rfl (fun c2 => ?_) (fun c2 => ?_)
    · have hd := rp_none (good := true) hm c2
      refine WC_seq ?_
      refine WC_region ?_
      refine WL_val rfl rfl rfl (R_loadA (vs := [_, _, _, _, _, _, _]) rfl ag58 rfl (mmZ) rfl (atZ)) ?_
      refine WL_do0 rfl rfl (D_store (vs := [_, _, _, _, _, _, _]) rfl Try.sizeOf58 rfl rfl rfl rfl rfl (plZ) (by exact Nat.le_of_ble_eq_true rfl)) ?_
      rintro _ _ rfl
      refine WL_val rfl rfl rfl (R_assign rfl rfl) ?_
      refine WL_nil ?_
      refine WQ_code ?_
      refine WC_ret ?_
      refine WQ_ret rfl rfl (.cons (.cell (vs := [_, _, _, _, _, _, _]) rfl ag58 (mmZ) rfl (atZ)) (.cons (.tmp rfl) .nil)) rfl (by
          rw [hd]
          first | exact ⟨_, rfl, rfl, h⟩ | exact ⟨_, rfl, rfl, g5⟩ | exact ⟨_, rfl, rfl, g4⟩ | exact ⟨_, rfl, rfl, g3⟩) (pqZ)
    · have hf := c2
      have hfl := fR_lt hf
      have hwl := withR_len_mem (c := ⟨c, 3, 0, now⟩) (fR_mem hf)
      refine WC_skip ?_
      refine WQ_code ?_
      refine WC_seq ?_
      refine WC_region ?_
      refine WL_val rfl rfl rfl (R_move rfl rfl) ?_
      refine WL_val rfl rfl rfl (R_fieldAddr rfl fa58_3 rfl) ?_
      refine WL_do0 rfl rfl (D_store (vs := [_]) rfl Try.sizeOf28 rfl rfl rfl rfl rfl (plZ) (by exact Nat.le_of_ble_eq_true rfl)) ?_
      rintro _ _ rfl
      refine WL_nil ?_
      refine WQ_code ?_
      refine WC_seq ?_
      refine WC_seq ?_
      refine WC_region ?_
      refine WL_val rfl rfl rfl (R_move rfl rfl) ?_
      refine WL_set (s := 30) (v := .bool true) rfl (by rfl) ?_
      refine WL_val rfl rfl rfl (R_move rfl rfl) ?_
      refine WL_val rfl rfl rfl (R_fieldAddr rfl fa58_5 rfl) ?_
      refine WL_val rfl rfl rfl (R_load rfl sc55 rfl (mmZ) rfl) ?_
      refine WL_val rfl rfl rfl (R_len rfl Try.underlying55 rfl) ?_
      refine WL_val rfl rfl rfl (R_gtr rfl rfl rfl) ?_
      refine WL_val rfl rfl rfl (R_pickT rfl rfl rfl) ?_
      refine WL_nil ?_
      refine WQ_code ?_
      refine WC_dec rfl (fun c3 => ?_) (fun c3 => ?_)
      · obtain ⟨x, hx⟩ := getE (T := r.Q) (i := 0) (by omega)
        obtain ⟨wq, hwq⟩ := h.q.some_of (by omega)
        have hd := rp_hand (good := true) hm hf rfl (by omega)
        rw [first_at hx] at hd
        refine WC_seq ?_
        refine WC_region ?_
        refine WL_val rfl rfl rfl (R_fieldAddr rfl fa58_5 rfl) ?_
        refine WL_val rfl rfl rfl (R_load rfl sc55 rfl (mmZ) rfl) ?_
        refine WL_val rfl rfl rfl (R_idxO hwq rfl Try.underlying55 Try.sizeOf144 rfl rfl (by exact (show 0 < r.Q.length by omega))) ?_
        refine WL_val rfl rfl rfl (R_fieldAddr rfl fa144_0 rfl) ?_
        refine WL_val rfl rfl rfl (R_loadO (v := .int .i64 x.1) hwq rfl sc3 rfl (mmZ) (fm_get0 encP2 hx (j := 0) (by omega))) ?_
        refine WL_val rfl rfl rfl (R_assign rfl rfl) ?_
        refine WL_nil ?_
        refine WQ_code ?_
        refine WC_seq ?_
        refine WC_region ?_
        refine WL_val rfl rfl rfl (R_loadA (vs := [_, _, _, _, _, _, _]) rfl ag58 rfl (mmZ) rfl (atZ)) ?_
        refine WL_val rfl rfl rfl (R_move rfl rfl) ?_
        refine WL_do rfl rfl rfl (D_call (mleave_ok (h.at_ now) x.1) rfl rfl rfl rfl (pqZ)) ?_
        rintro _ _ ⟨_, ⟨qb3, qc3, qt3, rfl, rfl, g3⟩, rfl⟩
        refine WL_val rfl rfl rfl (R_move rfl rfl) ?_
        refine WL_val rfl rfl rfl (R_move rfl rfl) ?_
        refine WL_do rfl rfl rfl (D_call (mtell_ok g3 1 x.1 c hE2) rfl rfl rfl rfl (pqZ)) ?_
        rintro _ _ ⟨_, ⟨eb5, ec5, et5, rfl, rfl, g5⟩, rfl⟩
        refine WL_do0 rfl rfl (D_store (vs := [_, _, _, _, _, _, _]) rfl Try.sizeOf58 rfl rfl rfl rfl rfl (plZ) (by exact Nat.le_of_ble_eq_true rfl)) ?_
        rintro _ _ rfl
        refine WL_val rfl rfl rfl (R_assign rfl rfl) ?_
        refine WL_nil ?_
        refine WQ_code ?_
        refine WC_ret ?_
        refine WQ_ret rfl rfl (.cons (.cell (vs := [_, _, _, _, _, _, _]) rfl ag58 (mmZ) rfl (atZ)) (.cons (.tmp rfl) .nil)) rfl (by
            rw [hd]
            first | exact ⟨_, rfl, rfl, h⟩ | exact ⟨_, rfl, rfl, g5⟩ | exact ⟨_, rfl, rfl, g4⟩ | exact ⟨_, rfl, rfl, g3⟩) (pqZ)
      · have hq0 : ¬ 0 < r.Q.length := fun e => c3 (Int.ofNat_lt.2 e)
        refine WC_skip ?_
        refine WQ_code ?_
        refine WC_seq ?_
        refine WC_seq ?_
        refine WC_draw _ [(0, true), (1, true), (2, true), (3, true), (4, true), (5, true), (6, true), (7, true)] followsMixed rfl rfl (by kernel_rfl) .all ?_
        refine WM_val rfl rfl rfl rfl (R_move rfl rfl) ?_
        refine WM_set (s := 48) (v := .bool true) rfl (by rfl) ?_
        refine WM_val rfl rfl rfl rfl (R_move rfl rfl) ?_
        refine WM_val rfl rfl rfl rfl (R_loadA (vs := [_, _, _, _, _, _, _]) rfl ag58 rfl (mmZ) rfl (atZ)) ?_
        refine WM_call rfl (Spec.quiet (mcount_ok (h.at_ now) 3)) rfl rfl rfl rfl rfl rfl rfl (pqZ) ?_
        refine WM_val rfl rfl rfl rfl (R_fieldAddr rfl fa58_1 rfl) ?_
        refine WM_val rfl rfl rfl rfl (R_load rfl sc3 rfl (mmZ) rfl) ?_
        refine WM_val rfl rfl rfl rfl (R_lss rfl rfl rfl) ?_
        refine WM_val rfl rfl rfl rfl (R_pickT rfl rfl rfl) ?_
        refine WM_nil ?_
        refine WQ_code ?_
        refine WC_dec rfl (fun c4 => ?_) (fun c4 => ?_)
        · have hd := rp_keep (good := true) hm hf rfl hq0 (Int.ofNat_lt.1 c4)
          refine WC_seq ?_
          refine WC_region ?_
          refine WL_val rfl rfl rfl (R_loadA (vs := [_, _, _, _, _, _, _]) rfl ag58 rfl (mmZ) rfl (atZ)) ?_
          refine WL_val rfl rfl rfl (R_move rfl rfl) ?_
          refine WL_val rfl rfl rfl (R_move rfl rfl) ?_
          refine WL_val rfl rfl rfl (R_build rfl zv139 pl139 rfl rfl) ?_
          refine WL_do rfl rfl rfl (D_call (mwith_ok (h.at_ now) ⟨c, 3, 0, now⟩ (by show (withR r.R _).length ≤ 64; omega)) rfl rfl rfl rfl (pqZ)) ?_
          rintro _ _ ⟨_, ⟨cb3, cc3, ct3, rfl, rfl, g3⟩, rfl⟩
          refine WL_do0 rfl rfl (D_store (vs := [_, _, _, _, _, _, _]) rfl Try.sizeOf58 rfl rfl rfl rfl rfl (plZ) (by exact Nat.le_of_ble_eq_true rfl)) ?_
          rintro _ _ rfl
          refine WL_val rfl rfl rfl (R_assign rfl rfl) ?_
          refine WL_nil ?_
          refine WQ_code ?_
          refine WC_ret ?_
          refine WQ_ret rfl rfl (.cons (.cell (vs := [_, _, _, _, _, _, _]) rfl ag58 (mmZ) rfl (atZ)) (.cons (.tmp rfl) .nil)) rfl (by
              rw [hd]
              first | exact ⟨_, rfl, rfl, h⟩ | exact ⟨_, rfl, rfl, g5⟩ | exact ⟨_, rfl, rfl, g4⟩ | exact ⟨_, rfl, rfl, g3⟩) (pqZ)
        · have hd := rp_full (good := true) hm hf hq0 (fun e => c4 (Int.ofNat_lt.2 e))
          refine WC_skip ?_
          refine WQ_code ?_
          refine WC_seq ?_
          refine WC_region ?_
          refine WL_val rfl rfl rfl (R_loadA (vs := [_, _, _, _, _, _, _]) rfl ag58 rfl (mmZ) rfl (atZ)) ?_
          refine WL_val rfl rfl rfl (R_move rfl rfl) ?_
          refine WL_set (s := 62) (v := .int .i64 ((findR c 2 r.R).toNat : Int)) rfl (by rw [Int.toNat_of_nonneg (by omega)]) ?_
          refine WL_do rfl rfl rfl (D_call (mwithout_ok (h.at_ now) (findR c 2 r.R).toNat hfl) rfl rfl rfl rfl (pqZ)) ?_
          rintro _ _ ⟨_, ⟨cb3, cc3, ct3, rfl, rfl, g3⟩, rfl⟩
          refine WL_val rfl rfl rfl (R_move rfl rfl) ?_
          refine WL_do rfl rfl rfl (D_call (mtell_ok g3 5 (-1) c hE2) rfl rfl rfl rfl (pqZ)) ?_
          rintro _ _ ⟨_, ⟨eb5, ec5, et5, rfl, rfl, g5⟩, rfl⟩
          refine WL_do rfl rfl rfl (D_call (mnext_ok g5 (by simp [RS.tell, RS.without, RS.at_]; omega)) rfl rfl rfl rfl (pqZ)) ?_
          rintro _ _ ⟨_, ⟨M4, rfl, rfl, g4⟩, rfl⟩
          refine WL_do0 rfl rfl (D_store (vs := [_, _, _, _, _, _, _]) rfl Try.sizeOf58 rfl rfl rfl rfl rfl (plZ) (by exact Nat.le_of_ble_eq_true rfl)) ?_
          rintro _ _ rfl
          refine WL_val rfl rfl rfl (R_assign rfl rfl) ?_
          refine WL_nil ?_
          refine WQ_code ?_
          refine WC_ret ?_
          refine WQ_ret rfl rfl (.cons (.cell (vs := [_, _, _, _, _, _, _]) rfl ag58 (mmZ) rfl (atZ)) (.cons (.tmp rfl) .nil)) rfl (by
              rw [hd]
              first | exact ⟨_, rfl, rfl, h⟩ | exact ⟨_, rfl, rfl, g5⟩ | exact ⟨_, rfl, rfl, g4⟩ | exact ⟨_, rfl, rfl, g3⟩) (pqZ)
theorem mput_false {M : MM} {r : RS} (h : MIs M r) (hE : r.E.length ≤ 60000) (c : Int) (now : Nat) : Spec Try.prog 60 [mdV M r, .int .i64 c, .bool false, .int .u64 (now : Int)] (mdH M r) (fun v H' => ∃ M', v = .tuple #[mdV M' (r.put c false now).1, .int .i64 (r.put c false now).2] ∧ H' = mdH M' (r.put c false now).1 ∧ MIs M' (r.put c false now).1) := by
  have hcl := h.cl
  have hE2 : r.E.length < 100000 := by omega
  have hE3 : r.E.length + 1 < 100000 := by omega
  refine Spec.of (E := [(0, mdV M r), (1, .int .i64 c), (2, .bool false), (3, .int .u64 (now : Int))]) Try.func60 rfl (by kernel_rfl) Try.ntmps60 rfl rfl (fun w => ?_)
  refine WC_seq ?_
  refine WC_region ?_
  refine WL_do rfl rfl rfl (D_box (cs := [_, _, _, _, _, _, _]) rfl rfl rfl) ?_
  rintro _ _ ⟨b1, rfl, rfl⟩
  refine WL_do rfl rfl rfl (D_alloc rfl zv58) ?_
  rintro _ _ ⟨b2, rfl, rfl⟩
  refine WL_val rfl rfl rfl (R_assign rfl rfl) ?_
  refine WL_nil ?_
  refine WQ_code ?_
  refine WC_seq ?_
  refine WC_seq ?_
  refine WC_region ?_
  refine WL_val rfl rfl rfl (R_loadA (vs := [_, _, _, _, _, _, _]) rfl ag58 rfl (mmZ) rfl (atZ)) ?_
  refine WL_val rfl rfl rfl (R_move rfl rfl) ?_
  refine WL_val rfl rfl rfl (R_geq rfl rfl rfl) ?_
  refine WL_val rfl rfl rfl (R_move rfl rfl) ?_
  refine WL_do rfl rfl rfl (D_call (mwrong_ok h (decide (0 ≤ c)) now) rfl rfl rfl rfl (pqZ)) ?_
  rintro _ _ ⟨_, ⟨rfl, rfl⟩, rfl⟩
  refine WL_val rfl rfl rfl (R_assign rfl rfl) ?_
  refine WL_nil ?_
  refine WQ_code ?_
  refine WC_seq ?_
  refine WC_region ?_
  refine WL_val rfl rfl rfl (R_move rfl rfl) ?_
  refine WL_val rfl rfl rfl (R_neq rfl rfl rfl) ?_
  refine WL_nil ?_
  refine WQ_code ?_
  refine WC_dec rfl (fun c1 => ?_) (fun c1 => ?_)
  · have hd := rp_bad (good := false) c1
    refine WC_seq ?_
    refine WC_region ?_
    refine WL_val rfl rfl rfl (R_loadA (vs := [_, _, _, _, _, _, _]) rfl ag58 rfl (mmZ) rfl (atZ)) ?_
    refine WL_val rfl rfl rfl (R_move rfl rfl) ?_
    refine WL_do0 rfl rfl (D_store (vs := [_, _, _, _, _, _, _]) rfl Try.sizeOf58 rfl rfl rfl rfl rfl (plZ) (by exact Nat.le_of_ble_eq_true rfl)) ?_
    rintro _ _ rfl
    refine WL_val rfl rfl rfl (R_assign rfl rfl) ?_
    refine WL_nil ?_
    refine WQ_code ?_
    refine WC_ret ?_
    refine WQ_ret rfl rfl (.cons (.cell (vs := [_, _, _, _, _, _, _]) rfl ag58 (mmZ) rfl (atZ)) (.cons (.tmp rfl) .nil)) rfl (by
        rw [hd]
        first | exact ⟨_, rfl, rfl, h⟩ | exact ⟨_, rfl, rfl, g4⟩) (pqZ)
  · have hm := c1
    refine WC_skip ?_
    refine WQ_code ?_
    refine WC_seq ?_
    refine WC_region ?_
    refine WL_val rfl rfl rfl (R_loadA (vs := [_, _, _, _, _, _, _]) rfl ag58 rfl (mmZ) rfl (atZ)) ?_
    refine WL_val rfl rfl rfl (R_move rfl rfl) ?_
    refine WL_do rfl rfl rfl (D_call (mfind_ok h c 2) rfl rfl rfl rfl (pqZ)) ?_
    rintro _ _ ⟨_, ⟨rfl, rfl⟩, rfl⟩
    refine WL_val rfl rfl rfl (R_assign rfl rfl) ?_
    refine WL_nil ?_
    refine WQ_code ?_
    refine WC_seq ?_
    refine WC_seq ?_
    refine WC_region ?_
    refine WL_val rfl rfl rfl (R_move rfl rfl) ?_
    refine WL_val rfl rfl rfl (R_lss rfl rfl rfl) ?_
    refine WL_nil ?_
    refine WQ_code ?_
    refine WC_dec rfl (fun c2 => ?_) (fun c2 => ?_)
    · have hd := rp_none (good := false) hm c2
      refine WC_seq ?_
      refine WC_region ?_
      refine WL_val rfl rfl rfl (R_loadA (vs := [_, _, _, _, _, _, _]) rfl ag58 rfl (mmZ) rfl (atZ)) ?_
      refine WL_do0 rfl rfl (D_store (vs := [_, _, _, _, _, _, _]) rfl Try.sizeOf58 rfl rfl rfl rfl rfl (plZ) (by exact Nat.le_of_ble_eq_true rfl)) ?_
      rintro _ _ rfl
      refine WL_val rfl rfl rfl (R_assign rfl rfl) ?_
      refine WL_nil ?_
      refine WQ_code ?_
      refine WC_ret ?_
      refine WQ_ret rfl rfl (.cons (.cell (vs := [_, _, _, _, _, _, _]) rfl ag58 (mmZ) rfl (atZ)) (.cons (.tmp rfl) .nil)) rfl (by
          rw [hd]
          first | exact ⟨_, rfl, rfl, h⟩ | exact ⟨_, rfl, rfl, g4⟩) (pqZ)
    · have hf := c2
      have hfl := fR_lt hf
      have hd := rp_worn (good := false) hm hf rfl
      refine WC_skip ?_
      refine WQ_code ?_
      refine WC_seq ?_
      refine WC_region ?_
      refine WL_val rfl rfl rfl (R_move rfl rfl) ?_
      refine WL_val rfl rfl rfl (R_fieldAddr rfl fa58_3 rfl) ?_
      refine WL_do0 rfl rfl (D_store (vs := [_]) rfl Try.sizeOf28 rfl rfl rfl rfl rfl (plZ) (by exact Nat.le_of_ble_eq_true rfl)) ?_
      rintro _ _ rfl
      refine WL_nil ?_
      refine WQ_code ?_
      refine WC_seq ?_
      refine WC_seq ?_
      refine WC_region ?_
      refine WL_val rfl rfl rfl (R_move rfl rfl) ?_
      refine WL_set (s := 30) (v := .bool false) rfl (by rfl) ?_
      refine WL_val rfl rfl rfl (R_move rfl rfl) ?_
      refine WL_skip rfl rfl rfl ?_
      refine WL_skip rfl rfl rfl ?_
      refine WL_skip rfl rfl rfl ?_
      refine WL_skip rfl rfl rfl ?_
      refine WL_val rfl rfl rfl (R_pickF rfl rfl rfl) ?_
      refine WL_nil ?_
      refine WQ_code ?_
      refine WC_F rfl ?_
      refine WC_skip ?_
      refine WQ_code ?_
      refine WC_seq ?_
      refine WC_seq ?_
      refine WC_draw _ [(0, true), (1, true), (2, true), (3, true), (4, true), (5, true), (6, true), (7, true)] followsMixed rfl rfl (by kernel_rfl) .all ?_
      refine WM_val rfl rfl rfl rfl (R_move rfl rfl) ?_
      refine WM_set (s := 48) (v := .bool false) rfl (by rfl) ?_
      refine WM_val rfl rfl rfl rfl (R_move rfl rfl) ?_
      refine WM_skip rfl rfl rfl rfl ?_
      refine WM_skip rfl rfl rfl rfl ?_
      refine WM_skip rfl rfl rfl rfl ?_
      refine WM_skip rfl rfl rfl rfl ?_
      refine WM_skip rfl rfl rfl rfl ?_
      refine WM_val rfl rfl rfl rfl (R_pickF rfl rfl rfl) ?_
      refine WM_nil ?_
      refine WQ_code ?_
      refine WC_F rfl ?_
      refine WC_skip ?_
      refine WQ_code ?_
      refine WC_seq ?_
      refine WC_region ?_
      refine WL_val rfl rfl rfl (R_loadA (vs := [_, _, _, _, _, _, _]) rfl ag58 rfl (mmZ) rfl (atZ)) ?_
      refine WL_val rfl rfl rfl (R_move rfl rfl) ?_
      refine WL_set (s := 62) (v := .int .i64 ((findR c 2 r.R).toNat : Int)) rfl (by rw [Int.toNat_of_nonneg (by omega)]) ?_
      refine WL_do rfl rfl rfl (D_call (mwithout_ok (h.at_ now) (findR c 2 r.R).toNat hfl) rfl rfl rfl rfl (pqZ)) ?_
      rintro _ _ ⟨_, ⟨cb3, cc3, ct3, rfl, rfl, g3⟩, rfl⟩
      refine WL_val rfl rfl rfl (R_move rfl rfl) ?_
      refine WL_do rfl rfl rfl (D_call (mtell_ok g3 5 (-1) c hE2) rfl rfl rfl rfl (pqZ)) ?_
      rintro _ _ ⟨_, ⟨eb5, ec5, et5, rfl, rfl, g5⟩, rfl⟩
      refine WL_do rfl rfl rfl (D_call (mnext_ok g5 (by simp [RS.tell, RS.without, RS.at_]; omega)) rfl rfl rfl rfl (pqZ)) ?_
      rintro _ _ ⟨_, ⟨M4, rfl, rfl, g4⟩, rfl⟩
      refine WL_do0 rfl rfl (D_store (vs := [_, _, _, _, _, _, _]) rfl Try.sizeOf58 rfl rfl rfl rfl rfl (plZ) (by exact Nat.le_of_ble_eq_true rfl)) ?_
      rintro _ _ rfl
      refine WL_val rfl rfl rfl (R_assign rfl rfl) ?_
      refine WL_nil ?_
      refine WQ_code ?_
      refine WC_ret ?_
      refine WQ_ret rfl rfl (.cons (.cell (vs := [_, _, _, _, _, _, _]) rfl ag58 (mmZ) rfl (atZ)) (.cons (.tmp rfl) .nil)) rfl (by
          rw [hd]
          first | exact ⟨_, rfl, rfl, h⟩ | exact ⟨_, rfl, rfl, g4⟩) (pqZ)
theorem mput_ok {M : MM} {r : RS} (h : MIs M r) (hE : r.E.length ≤ 60000) (c : Int) (good : Bool) (now : Nat) : Spec Try.prog 60 [mdV M r, .int .i64 c, .bool good, .int .u64 (now : Int)] (mdH M r) (fun v H' => ∃ M', v = .tuple #[mdV M' (r.put c good now).1, .int .i64 (r.put c good now).2] ∧ H' = mdH M' (r.put c good now).1 ∧ MIs M' (r.put c good now).1) := by
  cases good with
  | true => exact mput_true h hE c now
  | false => exact mput_false h hE c now
end Go.Proofs.Yteofigbgdbpjgaa
end
section
set_option linter.unusedVariables false
set_option maxRecDepth 20000
set_option maxHeartbeats 4000000
namespace Go.Proofs.Yteofigbgdbpjgaa
theorem madv_ok {M : MM} {r : RS} (h : MIs M r) (hE : r.E.length ≤ 60000) (hsi : ∀ x ∈ r.R, x.since ≤ r.now) (now : Nat) (hb : now ≤ 18446744073709551615) : Spec Try.prog 64 [mdV M r, .int .u64 (now : Int)] (mdH M r) (fun v H' => ∃ M', v = .tuple #[mdV M' (r.adv now).1, .int .i64 (r.adv now).2] ∧ H' = mdH M' (r.adv now).1 ∧ MIs M' (r.adv now).1) := by
  have hcl := h.cl
  have hql := h.ql
  refine Spec.of (E := [(0, mdV M r), (1, .int .u64 (now : Int))]) Try.func64 rfl (by kernel_rfl) Try.ntmps64 rfl rfl (fun w => ?_)
  refine WC_seq ?_
  refine WC_region ?_
  refine WL_do rfl rfl rfl (D_box (cs := [_, _, _, _, _, _, _]) rfl rfl rfl) ?_
  rintro _ _ ⟨b1, rfl, rfl⟩
  refine WL_do rfl rfl rfl (D_alloc rfl zv58) ?_
  rintro _ _ ⟨b2, rfl, rfl⟩
  refine WL_val rfl rfl rfl (R_assign rfl rfl) ?_
  refine WL_nil ?_
  refine WQ_code ?_
  refine WC_seq ?_
  refine WC_seq ?_
  refine WC_region ?_
  refine WL_val rfl rfl rfl (R_loadA (vs := [_, _, _, _, _, _, _]) rfl ag58 rfl (mmZ) rfl (atZ)) ?_
  refine WL_val rfl rfl rfl (R_move rfl rfl) ?_
  refine WL_do rfl rfl rfl (D_call (mwrong_ok h true now) rfl rfl rfl rfl (pqZ)) ?_
  rintro _ _ ⟨_, ⟨rfl, rfl⟩, rfl⟩
  refine WL_val rfl rfl rfl (R_assign rfl rfl) ?_
  refine WL_nil ?_
  refine WQ_code ?_
  refine WC_seq ?_
  refine WC_region ?_
  refine WL_val rfl rfl rfl (R_move rfl rfl) ?_
  refine WL_val rfl rfl rfl (R_neq rfl rfl rfl) ?_
  refine WL_nil ?_
  refine WQ_code ?_
  refine WC_dec rfl (fun c1 => ?_) (fun c1 => ?_)
  · have hadv := ra_bad c1
    refine WC_seq ?_
    refine WC_region ?_
    refine WL_val rfl rfl rfl (R_loadA (vs := [_, _, _, _, _, _, _]) rfl ag58 rfl (mmZ) rfl (atZ)) ?_
    refine WL_val rfl rfl rfl (R_move rfl rfl) ?_
    refine WL_do0 rfl rfl (D_store (vs := [_, _, _, _, _, _, _]) rfl Try.sizeOf58 rfl rfl rfl rfl rfl (plZ) (by exact Nat.le_of_ble_eq_true rfl)) ?_
    rintro _ _ rfl
    refine WL_val rfl rfl rfl (R_assign rfl rfl) ?_
    refine WL_nil ?_
    refine WQ_code ?_
    refine WC_ret ?_
    refine WQ_ret rfl rfl (.cons (.cell (vs := [_, _, _, _, _, _, _]) rfl ag58 (mmZ) rfl (atZ)) (.cons (.tmp rfl) .nil)) rfl (by
        rw [hadv]
        first | exact ⟨_, rfl, rfl, h⟩ | exact ⟨_, rfl, rfl, hu.is⟩) (pqZ)
  · have hm := c1
    have hnw := ra_now hm
    refine WC_skip ?_
    refine WQ_code ?_
    refine WC_seq ?_
    refine WC_region ?_
    refine WL_val rfl rfl rfl (R_move rfl rfl) ?_
    refine WL_val rfl rfl rfl (R_fieldAddr rfl fa58_3 rfl) ?_
    refine WL_do0 rfl rfl (D_store (vs := [_]) rfl Try.sizeOf28 rfl rfl rfl rfl rfl (plZ) (by exact Nat.le_of_ble_eq_true rfl)) ?_
    rintro _ _ rfl
    refine WL_nil ?_
    refine WQ_code ?_
    refine WC_seq ?_
    refine WC_block ?_
    refine WC_loopF (G := AvW) [7, 8, 9, 10, 24, 25, 26, 27, 28, 29, 30, 31, 32, 33, 34, 35, 36, 37, 38, 39, 40, 41, 42, 43, 44, 45, 46, 47, 48, 49, 50, 51, 52, 53, 54, 55, 56, 57, 58, 59, 60, 61, 62, 63, 64, 65, 66, 67, 68, 69, 70, 71] (fun y => AvQ r now y) (fun y => []) (fun y => [⟨some b1, cl (mdL y.M y.r) 58⟩, mdC y.M y.r, mdQ y.M y.r, mdE y.M y.r]) (fun y => y.n) (⟨r.Q.length, M, { r with now := now }⟩) (⟨Nat.le_refl _, rfl, h.at_ now, by show r.E.length + r.Q.length ≤ 61001; omega, rfl, rfl⟩) leZ (pqZ) ?_
    rintro y hy
    have hyel := hy.el
    have hyql := hy.is.ql
    refine WC_block ?_
    refine WC_seq ?_
    refine WC_region ?_
    refine WL_val rfl rfl rfl (R_assign rfl rfl) ?_
    refine WL_nil ?_
    refine WQ_code ?_
    refine WC_seq ?_
    refine WC_seq ?_
    refine WC_region ?_
    refine WL_val rfl rfl rfl (R_assign rfl rfl) ?_
    refine WL_nil ?_
    refine WQ_code ?_
    refine WC_block ?_
    refine WC_loopF (G := SlW) [7, 8, 9, 24, 25, 26, 27, 28, 29, 30, 31, 32, 33, 34, 35, 36, 37, 38, 39, 40, 41, 42, 43, 44, 45, 46, 47, 48, 49, 50, 51, 52, 53, 54, 55, 56, 57, 58] (fun z => z.k ≤ y.r.Q.length ∧ z.o = selK (pLate now) qSoon y.r.Q z.k) (fun z => [(8, .int .i64 (z.k : Int)), (7, .int .i64 (optI z.o))]) (fun z => []) (fun z => y.r.Q.length - z.k) (⟨0, none⟩) (⟨Nat.zero_le _, rfl⟩) leZ (pqZ) ?_
    rintro z ⟨hk, hzo⟩
    refine WC_seq ?_
    refine WC_seq ?_
    refine WC_region ?_
    refine WL_val rfl rfl rfl (R_move rfl rfl) ?_
    refine WL_val rfl rfl rfl (R_fieldAddr rfl fa58_5 rfl) ?_
    refine WL_val rfl rfl rfl (R_load rfl sc55 rfl (mmZ) rfl) ?_
    refine WL_val rfl rfl rfl (R_len rfl Try.underlying55 rfl) ?_
    refine WL_val rfl rfl rfl (R_lss rfl rfl rfl) ?_
    refine WL_nil ?_
    refine WQ_code ?_
    refine WC_dec rfl (fun c2 => ?_) (fun c2 => ?_)
    · refine WC_skip ?_
      refine WQ_code ?_
      refine WC_seq ?_
      refine WC_block ?_
      refine WC_seq ?_
      refine WC_region ?_
      obtain ⟨x, hx⟩ := getE (T := y.r.Q) (i := z.k) (by omega)
      obtain ⟨wq, hwq⟩ := hy.is.q.some_of (by omega)
      refine WL_val rfl rfl rfl (R_fieldAddr rfl fa58_5 rfl) ?_
      refine WL_val rfl rfl rfl (R_load rfl sc55 rfl (mmZ) rfl) ?_
      refine WL_val rfl rfl rfl (R_move rfl rfl) ?_
      refine WL_val rfl rfl rfl (R_idxO hwq rfl Try.underlying55 Try.sizeOf144 rfl rfl (by omega)) ?_
      refine WL_val rfl rfl rfl (R_fieldAddr rfl fa144_1 rfl) ?_
      refine WL_val rfl rfl rfl (R_loadO (v := .int .u64 (x.2 : Int)) hwq rfl sc28 rfl (mmZ) (fm_get0 encP2 hx (j := 1) (by omega))) ?_
      refine WL_val rfl rfl rfl (R_assign rfl rfl) ?_
      refine WL_nil ?_
      refine WQ_code ?_
      refine WC_seq ?_
      refine WC_region ?_
      refine WL_val rfl rfl rfl (R_move rfl rfl) ?_
      refine WL_val rfl rfl rfl (R_neq rfl rfl rfl) ?_
      refine WL_val rfl rfl rfl (R_move rfl rfl) ?_
      refine WL_splitD (s := 39) rfl (fun c3 => ?_) (fun c3 => ?_)
      · have hs0 := c3
        refine WL_val rfl rfl rfl (R_move rfl rfl) ?_
        refine WL_val rfl rfl rfl (R_move rfl rfl) ?_
        refine WL_val rfl rfl rfl (R_leq rfl rfl rfl) ?_
        refine WL_val rfl rfl rfl (R_pickT rfl rfl rfl) ?_
        refine WL_val rfl rfl rfl (R_move rfl rfl) ?_
        refine WL_splitD (s := 44) rfl (fun c4 => ?_) (fun c4 => ?_)
        · have hs3 : pLate now x = true := decide_eq_true ⟨by omega, by omega⟩
          refine WL_val rfl rfl rfl (R_move rfl rfl) ?_
          refine WL_val rfl rfl rfl (R_lss rfl rfl rfl) ?_
          refine WL_val rfl rfl rfl (R_move rfl rfl) ?_
          refine WL_splitD (s := 47) rfl (fun c5 => ?_) (fun c5 => ?_)
          · have hnx := selK_yes (p := pLate now) (q := qSoon) hx hs3 (hzo.symm.trans (optI_neg c5))
            refine WL_skip rfl rfl rfl ?_
            refine WL_skip rfl rfl rfl ?_
            refine WL_skip rfl rfl rfl ?_
            refine WL_skip rfl rfl rfl ?_
            refine WL_skip rfl rfl rfl ?_
            refine WL_skip rfl rfl rfl ?_
            refine WL_skip rfl rfl rfl ?_
            refine WL_skip rfl rfl rfl ?_
            refine WL_val rfl rfl rfl (R_pickT rfl rfl rfl) ?_
            refine WL_val rfl rfl rfl (R_pickT rfl rfl rfl) ?_
            refine WL_nil ?_
            refine WQ_code ?_
            refine WC_T rfl ?_
            refine WC_region ?_
            refine WL_val rfl rfl rfl (R_move rfl rfl) ?_
            refine WL_val rfl rfl rfl (R_assign rfl rfl) ?_
            refine WL_nil ?_
            refine WQ_code ?_
            refine WC_region ?_
            refine WL_val rfl rfl rfl (R_move rfl rfl) ?_
            refine WL_val rfl rfl rfl (R_add rfl rfl rfl (by omega)) ?_
            refine WL_val rfl rfl rfl (R_assign rfl rfl) ?_
            refine WL_nil ?_
            refine WQ_nextF (⟨z.k + 1, some z.k⟩) (⟨by dsimp only; omega, by first | exact hnx.symm | exact hzo.trans hnx.symm⟩) (by dsimp only; omega) leZ (psZ) rfl (pqZ)
          · obtain ⟨j, hj⟩ := optI_pos c5
            obtain ⟨hjk, w9, hw9, _⟩ := selK_lt (hzo.symm.trans hj)
            refine WL_val rfl rfl rfl (R_move rfl rfl) ?_
            refine WL_val rfl rfl rfl (R_fieldAddr rfl fa58_5 rfl) ?_
            refine WL_val rfl rfl rfl (R_load rfl sc55 rfl (mmZ) rfl) ?_
            refine WL_val rfl rfl rfl (R_move rfl rfl) ?_
            refine WL_set (s := 51) (v := .int .i64 (j : Int)) rfl (by rw [hj]; rfl) ?_
            refine WL_val rfl rfl rfl (R_idxO hwq rfl Try.underlying55 Try.sizeOf144 rfl rfl (by omega)) ?_
            refine WL_val rfl rfl rfl (R_fieldAddr rfl fa144_1 rfl) ?_
            refine WL_val rfl rfl rfl (R_loadO (v := .int .u64 (w9.2 : Int)) hwq rfl sc28 rfl (mmZ) (fm_get0 encP2 hw9 (j := 1) (by omega))) ?_
            refine WL_val rfl rfl rfl (R_lss rfl rfl rfl) ?_
            refine WL_val rfl rfl rfl (R_pickF rfl rfl rfl) ?_
            refine WL_val rfl rfl rfl (R_pickT rfl rfl rfl) ?_
            refine WL_nil ?_
            refine WQ_code ?_
            refine WC_dec rfl (fun c6 => ?_) (fun c6 => ?_)
            · have hnx := selK_yes2 (p := pLate now) (q := qSoon) hx hs3 (hzo.symm.trans hj) hw9 (decide_eq_true (by omega))
              refine WC_region ?_
              refine WL_val rfl rfl rfl (R_move rfl rfl) ?_
              refine WL_val rfl rfl rfl (R_assign rfl rfl) ?_
              refine WL_nil ?_
              refine WQ_code ?_
              refine WC_region ?_
              refine WL_val rfl rfl rfl (R_move rfl rfl) ?_
              refine WL_val rfl rfl rfl (R_add rfl rfl rfl (by omega)) ?_
              refine WL_val rfl rfl rfl (R_assign rfl rfl) ?_
              refine WL_nil ?_
              refine WQ_nextF (⟨z.k + 1, some z.k⟩) (⟨by dsimp only; omega, by first | exact hnx.symm | exact hzo.trans hnx.symm⟩) (by dsimp only; omega) leZ (psZ) rfl (pqZ)
            · have hnx := selK_no2 (p := pLate now) (q := qSoon) hx (hzo.symm.trans hj) hw9 (decide_eq_false (by omega))
              refine WC_skip ?_
              refine WQ_code ?_
              refine WC_region ?_
              refine WL_val rfl rfl rfl (R_move rfl rfl) ?_
              refine WL_val rfl rfl rfl (R_add rfl rfl rfl (by omega)) ?_
              refine WL_val rfl rfl rfl (R_assign rfl rfl) ?_
              refine WL_nil ?_
              refine WQ_nextF (⟨z.k + 1, z.o⟩) (⟨by dsimp only; omega, by first | exact hnx.symm | exact hzo.trans hnx.symm⟩) (by dsimp only; omega) leZ (psZ) rfl (pqZ)
        · have hnx := selK_no (p := pLate now) (q := qSoon) hx (decide_eq_false (by omega))
          refine WL_skip rfl rfl rfl ?_
          refine WL_skip rfl rfl rfl ?_
          refine WL_skip rfl rfl rfl ?_
          refine WL_skip rfl rfl rfl ?_
          refine WL_skip rfl rfl rfl ?_
          refine WL_skip rfl rfl rfl ?_
          refine WL_skip rfl rfl rfl ?_
          refine WL_skip rfl rfl rfl ?_
          refine WL_skip rfl rfl rfl ?_
          refine WL_skip rfl rfl rfl ?_
          refine WL_skip rfl rfl rfl ?_
          refine WL_skip rfl rfl rfl ?_
          refine WL_val rfl rfl rfl (R_pickF rfl rfl rfl) ?_
          refine WL_nil ?_
          refine WQ_code ?_
          refine WC_F rfl ?_
          refine WC_skip ?_
          refine WQ_code ?_
          refine WC_region ?_
          refine WL_val rfl rfl rfl (R_move rfl rfl) ?_
          refine WL_val rfl rfl rfl (R_add rfl rfl rfl (by omega)) ?_
          refine WL_val rfl rfl rfl (R_assign rfl rfl) ?_
          refine WL_nil ?_
          refine WQ_nextF (⟨z.k + 1, z.o⟩) (⟨by dsimp only; omega, by first | exact hnx.symm | exact hzo.trans hnx.symm⟩) (by dsimp only; omega) leZ (psZ) rfl (pqZ)
      · have hnx := selK_no (p := pLate now) (q := qSoon) hx (decide_eq_false (by omega))
        refine WL_skip rfl rfl rfl ?_
        refine WL_skip rfl rfl rfl ?_
        refine WL_skip rfl rfl rfl ?_
        refine WL_val rfl rfl rfl (R_pickF rfl rfl rfl) ?_
        refine WL_val rfl rfl rfl (R_move rfl rfl) ?_
        refine WL_skip rfl rfl rfl ?_
        refine WL_skip rfl rfl rfl ?_
        refine WL_skip rfl rfl rfl ?_
        refine WL_skip rfl rfl rfl ?_
        refine WL_skip rfl rfl rfl ?_
        refine WL_skip rfl rfl rfl ?_
        refine WL_skip rfl rfl rfl ?_
        refine WL_skip rfl rfl rfl ?_
        refine WL_skip rfl rfl rfl ?_
        refine WL_skip rfl rfl rfl ?_
        refine WL_skip rfl rfl rfl ?_
        refine WL_skip rfl rfl rfl ?_
        refine WL_val rfl rfl rfl (R_pickF rfl rfl rfl) ?_
        refine WL_nil ?_
        refine WQ_code ?_
        refine WC_F rfl ?_
        refine WC_skip ?_
        refine WQ_code ?_
        refine WC_region ?_
        refine WL_val rfl rfl rfl (R_move rfl rfl) ?_
        refine WL_val rfl rfl rfl (R_add rfl rfl rfl (by omega)) ?_
        refine WL_val rfl rfl rfl (R_assign rfl rfl) ?_
        refine WL_nil ?_
        refine WQ_nextF (⟨z.k + 1, z.o⟩) (⟨by dsimp only; omega, by first | exact hnx.symm | exact hzo.trans hnx.symm⟩) (by dsimp only; omega) leZ (psZ) rfl (pqZ)
    · have hkl : z.k = y.r.Q.length := by omega
      rw [hkl] at hzo
      refine WC_exit ?_
      refine WQ_code ?_
      refine WC_seq ?_
      refine WC_seq ?_
      refine WC_region ?_
      refine WL_val rfl rfl rfl (R_move rfl rfl) ?_
      refine WL_val rfl rfl rfl (R_lss rfl rfl rfl) ?_
      refine WL_nil ?_
      refine WQ_code ?_
      refine WC_dec rfl (fun c7 => ?_) (fun c7 => ?_)
      · have hso : y.r.soon now = none := hzo.symm.trans (optI_neg (by omega))
        refine WC_exit ?_
        refine WQ_code ?_
        refine WC_seq ?_
        refine WC_block ?_
        refine WC_loopF (G := AvW) [11, 12, 13, 14, 72, 73, 74, 75, 76, 77, 78, 79, 80, 81, 82, 83, 84, 85, 86, 87, 88, 89, 90, 91, 92, 93, 94, 95, 96, 97, 98, 99, 100, 101, 102, 103, 104, 105, 106, 107, 108, 109, 110, 111, 112, 113, 114, 115, 116, 117, 118, 119, 120, 121, 122, 123, 124, 125, 126, 127, 128] (fun u => AvC r now u) (fun u => []) (fun u => [⟨some b1, cl (mdL u.M u.r) 58⟩, mdC u.M u.r, mdQ u.M u.r, mdE u.M u.r]) (fun u => u.n) (⟨r.R.length, y.M, y.r⟩) (AvC.begin hy hso hcl (by omega) (fun x hx => Nat.le_trans (hsi x hx) hnw)) leZ (pqZ) ?_
        rintro u hu
        have huel := hu.el
        have hucl := hu.is.cl
        refine WC_seq ?_
        refine WC_seq ?_
        refine WC_region ?_
        refine WL_val rfl rfl rfl (R_fieldAddr rfl fa58_2 rfl) ?_
        refine WL_val rfl rfl rfl (R_load rfl sc28 rfl (mmZ) rfl) ?_
        refine WL_val rfl rfl rfl (R_neq rfl rfl rfl) ?_
        refine WL_nil ?_
        refine WQ_code ?_
        refine WC_dec rfl (fun c8 => ?_) (fun c8 => ?_)
        · have hkp : u.r.keep ≠ 18446744073709551615 := by omega
          refine WC_skip ?_
          refine WQ_code ?_
          refine WC_block ?_
          refine WC_seq ?_
          refine WC_region ?_
          refine WL_val rfl rfl rfl (R_assign rfl rfl) ?_
          refine WL_nil ?_
          refine WQ_code ?_
          refine WC_seq ?_
          refine WC_seq ?_
          refine WC_region ?_
          refine WL_val rfl rfl rfl (R_assign rfl rfl) ?_
          refine WL_nil ?_
          refine WQ_code ?_
          refine WC_block ?_
          refine WC_loopF (G := SlW) [11, 12, 13, 75, 76, 77, 78, 79, 80, 81, 82, 83, 84, 85, 86, 87, 88, 89, 90, 91, 92, 93, 94, 95, 96, 97, 98, 99, 100, 101, 102, 103, 104, 105, 106, 107, 108, 109, 110, 111, 112, 113, 114] (fun v => v.k ≤ u.r.R.length ∧ v.o = selK (pOld u.r.keep now) qOld u.r.R v.k) (fun v => [(12, .int .i64 (v.k : Int)), (11, .int .i64 (optI v.o))]) (fun v => []) (fun v => u.r.R.length - v.k) (⟨0, none⟩) (⟨Nat.zero_le _, rfl⟩) leZ (pqZ) ?_
          rintro v ⟨hk, hvo⟩
          refine WC_seq ?_
          refine WC_seq ?_
          refine WC_region ?_
          refine WL_val rfl rfl rfl (R_move rfl rfl) ?_
          refine WL_val rfl rfl rfl (R_fieldAddr rfl fa58_4 rfl) ?_
          refine WL_val rfl rfl rfl (R_load rfl sc54 rfl (mmZ) rfl) ?_
          refine WL_val rfl rfl rfl (R_len rfl Try.underlying54 rfl) ?_
          refine WL_val rfl rfl rfl (R_lss rfl rfl rfl) ?_
          refine WL_nil ?_
          refine WQ_code ?_
          refine WC_dec rfl (fun c9 => ?_) (fun c9 => ?_)
          · refine WC_skip ?_
            refine WQ_code ?_
            refine WC_seq ?_
            refine WC_block ?_
            refine WC_seq ?_
            refine WC_region ?_
            obtain ⟨x, hx⟩ := getE (T := u.r.R) (i := v.k) (by omega)
            obtain ⟨wc, hwc⟩ := hu.is.c.some_of (by omega)
            have hsx := hu.si x (List.mem_of_getElem? hx)
            refine WL_val rfl rfl rfl (R_fieldAddr rfl fa58_4 rfl) ?_
            refine WL_val rfl rfl rfl (R_load rfl sc54 rfl (mmZ) rfl) ?_
            refine WL_val rfl rfl rfl (R_move rfl rfl) ?_
            refine WL_val rfl rfl rfl (R_idxO hwc rfl Try.underlying54 Try.sizeOf139 rfl rfl (by omega)) ?_
            refine WL_val rfl rfl rfl (R_loadAO (vs := encR x) hwc rfl ag139 rfl (mmZ) rfl (fm_at0 encR4 hx (j := 0) (vs := encR x) (fun j v hj => by rw [Nat.zero_add]; exact hj) (Nat.le_refl _))) ?_
            refine WL_do rfl rfl rfl (D_alloc rfl zv139) ?_
            rintro _ _ ⟨b3, rfl, rfl⟩
            refine WL_do0 rfl rfl (D_store (vs := [_, _, _, _]) rfl Try.sizeOf139 rfl rfl rfl rfl rfl (plZ) (by exact Nat.le_of_ble_eq_true rfl)) ?_
            rintro _ _ rfl
            refine WL_nil ?_
            refine WQ_code ?_
            refine WC_seq ?_
            refine WC_draw _ [(0, true), (1, true), (2, true), (3, true), (4, true), (5, true), (6, true), (7, true), (8, true), (9, true), (10, true), (11, true), (12, true), (13, true), (14, true), (15, true), (16, true), (17, true), (18, true), (19, true), (20, true), (21, true), (22, true), (23, true), (24, true), (25, true), (26, true)] followsMixed rfl rfl (by kernel_rfl) .all ?_
            refine WM_val rfl rfl rfl rfl (R_fieldAddr rfl fa139_1 rfl) ?_
            refine WM_val rfl rfl rfl rfl (R_load rfl sc3 rfl (mmZ) rfl) ?_
            refine WM_val rfl rfl rfl rfl (R_eql rfl rfl rfl) ?_
            refine WM_val rfl rfl rfl rfl (R_move rfl rfl) ?_
            refine WM_splitD (s := 90) rfl (fun c10 => ?_) (fun c10 => ?_)
            · have hs0 := c10
              refine WM_val rfl rfl rfl rfl (R_move rfl rfl) ?_
              refine WM_val rfl rfl rfl rfl (R_fieldAddr rfl fa139_3 rfl) ?_
              refine WM_val rfl rfl rfl rfl (R_load rfl sc28 rfl (mmZ) rfl) ?_
              refine WM_val rfl rfl rfl rfl (R_subR (r := ((now - x.since : Nat) : Int)) rfl rfl rfl (by rw [w64 (by omega)]; omega)) ?_
              refine WM_val rfl rfl rfl rfl (R_fieldAddr rfl fa58_2 rfl) ?_
              refine WM_val rfl rfl rfl rfl (R_load rfl sc28 rfl (mmZ) rfl) ?_
              refine WM_val rfl rfl rfl rfl (R_geq rfl rfl rfl) ?_
              refine WM_val rfl rfl rfl rfl (R_pickT rfl rfl rfl) ?_
              refine WM_val rfl rfl rfl rfl (R_move rfl rfl) ?_
              refine WM_splitD (s := 99) rfl (fun c11 => ?_) (fun c11 => ?_)
              · have hs3 : pOld u.r.keep now x = true := decide_eq_true ⟨hs0, by omega⟩
                refine WM_val rfl rfl rfl rfl (R_move rfl rfl) ?_
                refine WM_val rfl rfl rfl rfl (R_lss rfl rfl rfl) ?_
                refine WM_val rfl rfl rfl rfl (R_move rfl rfl) ?_
                refine WM_splitD (s := 102) rfl (fun c12 => ?_) (fun c12 => ?_)
                · have hnx := selK_yes (p := pOld u.r.keep now) (q := qOld) hx hs3 (hvo.symm.trans (optI_neg c12))
                  refine WM_skip rfl rfl rfl rfl ?_
                  refine WM_skip rfl rfl rfl rfl ?_
                  refine WM_skip rfl rfl rfl rfl ?_
                  refine WM_skip rfl rfl rfl rfl ?_
                  refine WM_skip rfl rfl rfl rfl ?_
                  refine WM_skip rfl rfl rfl rfl ?_
                  refine WM_skip rfl rfl rfl rfl ?_
                  refine WM_skip rfl rfl rfl rfl ?_
                  refine WM_skip rfl rfl rfl rfl ?_
                  refine WM_val rfl rfl rfl rfl (R_pickT rfl rfl rfl) ?_
                  refine WM_val rfl rfl rfl rfl (R_pickT rfl rfl rfl) ?_
                  refine WM_nil ?_
                  refine WQ_code ?_
                  refine WC_T rfl ?_
                  refine WC_region ?_
                  refine WL_val rfl rfl rfl (R_move rfl rfl) ?_
                  refine WL_val rfl rfl rfl (R_assign rfl rfl) ?_
                  refine WL_nil ?_
                  refine WQ_code ?_
                  refine WC_region ?_
                  refine WL_val rfl rfl rfl (R_move rfl rfl) ?_
                  refine WL_val rfl rfl rfl (R_add rfl rfl rfl (by omega)) ?_
                  refine WL_val rfl rfl rfl (R_assign rfl rfl) ?_
                  refine WL_nil ?_
                  refine WQ_nextF (⟨v.k + 1, some v.k⟩) (⟨by dsimp only; omega, by first | exact hnx.symm | exact hvo.trans hnx.symm⟩) (by dsimp only; omega) leZ (psZ) rfl (pqZ)
                · obtain ⟨j, hj⟩ := optI_pos c12
                  obtain ⟨hjk, w9, hw9, _⟩ := selK_lt (hvo.symm.trans hj)
                  refine WM_val rfl rfl rfl rfl (R_fieldAddr rfl fa139_3 rfl) ?_
                  refine WM_val rfl rfl rfl rfl (R_load rfl sc28 rfl (mmZ) rfl) ?_
                  refine WM_val rfl rfl rfl rfl (R_fieldAddr rfl fa58_4 rfl) ?_
                  refine WM_val rfl rfl rfl rfl (R_load rfl sc54 rfl (mmZ) rfl) ?_
                  refine WM_val rfl rfl rfl rfl (R_move rfl rfl) ?_
                  refine WM_set (s := 107) (v := .int .i64 (j : Int)) rfl (by rw [hj]; rfl) ?_
                  refine WM_val rfl rfl rfl rfl (R_idxO hwc rfl Try.underlying54 Try.sizeOf139 rfl rfl (by omega)) ?_
                  refine WM_val rfl rfl rfl rfl (R_fieldAddr rfl fa139_3 rfl) ?_
                  refine WM_val rfl rfl rfl rfl (R_loadO (v := .int .u64 (w9.since : Int)) hwc rfl sc28 rfl (mmZ) (fm_get0 encR4 hw9 (j := 3) (by omega))) ?_
                  refine WM_val rfl rfl rfl rfl (R_lss rfl rfl rfl) ?_
                  refine WM_val rfl rfl rfl rfl (R_pickF rfl rfl rfl) ?_
                  refine WM_val rfl rfl rfl rfl (R_pickT rfl rfl rfl) ?_
                  refine WM_nil ?_
                  refine WQ_code ?_
                  refine WC_dec rfl (fun c13 => ?_) (fun c13 => ?_)
                  · have hnx := selK_yes2 (p := pOld u.r.keep now) (q := qOld) hx hs3 (hvo.symm.trans hj) hw9 (decide_eq_true (by omega))
                    refine WC_region ?_
                    refine WL_val rfl rfl rfl (R_move rfl rfl) ?_
                    refine WL_val rfl rfl rfl (R_assign rfl rfl) ?_
                    refine WL_nil ?_
                    refine WQ_code ?_
                    refine WC_region ?_
                    refine WL_val rfl rfl rfl (R_move rfl rfl) ?_
                    refine WL_val rfl rfl rfl (R_add rfl rfl rfl (by omega)) ?_
                    refine WL_val rfl rfl rfl (R_assign rfl rfl) ?_
                    refine WL_nil ?_
                    refine WQ_nextF (⟨v.k + 1, some v.k⟩) (⟨by dsimp only; omega, by first | exact hnx.symm | exact hvo.trans hnx.symm⟩) (by dsimp only; omega) leZ (psZ) rfl (pqZ)
                  · have hnx := selK_no2 (p := pOld u.r.keep now) (q := qOld) hx (hvo.symm.trans hj) hw9 (decide_eq_false (by omega))
                    refine WC_skip ?_
                    refine WQ_code ?_
                    refine WC_region ?_
                    refine WL_val rfl rfl rfl (R_move rfl rfl) ?_
                    refine WL_val rfl rfl rfl (R_add rfl rfl rfl (by omega)) ?_
                    refine WL_val rfl rfl rfl (R_assign rfl rfl) ?_
                    refine WL_nil ?_
                    refine WQ_nextF (⟨v.k + 1, v.o⟩) (⟨by dsimp only; omega, by first | exact hnx.symm | exact hvo.trans hnx.symm⟩) (by dsimp only; omega) leZ (psZ) rfl (pqZ)
              · have hnx := selK_no (p := pOld u.r.keep now) (q := qOld) hx (decide_eq_false (by omega))
                refine WM_skip rfl rfl rfl rfl ?_
                refine WM_skip rfl rfl rfl rfl ?_
                refine WM_skip rfl rfl rfl rfl ?_
                refine WM_skip rfl rfl rfl rfl ?_
                refine WM_skip rfl rfl rfl rfl ?_
                refine WM_skip rfl rfl rfl rfl ?_
                refine WM_skip rfl rfl rfl rfl ?_
                refine WM_skip rfl rfl rfl rfl ?_
                refine WM_skip rfl rfl rfl rfl ?_
                refine WM_skip rfl rfl rfl rfl ?_
                refine WM_skip rfl rfl rfl rfl ?_
                refine WM_skip rfl rfl rfl rfl ?_
                refine WM_skip rfl rfl rfl rfl ?_
                refine WM_val rfl rfl rfl rfl (R_pickF rfl rfl rfl) ?_
                refine WM_nil ?_
                refine WQ_code ?_
                refine WC_F rfl ?_
                refine WC_skip ?_
                refine WQ_code ?_
                refine WC_region ?_
                refine WL_val rfl rfl rfl (R_move rfl rfl) ?_
                refine WL_val rfl rfl rfl (R_add rfl rfl rfl (by omega)) ?_
                refine WL_val rfl rfl rfl (R_assign rfl rfl) ?_
                refine WL_nil ?_
                refine WQ_nextF (⟨v.k + 1, v.o⟩) (⟨by dsimp only; omega, by first | exact hnx.symm | exact hvo.trans hnx.symm⟩) (by dsimp only; omega) leZ (psZ) rfl (pqZ)
            · have hnx := selK_no (p := pOld u.r.keep now) (q := qOld) hx (decide_eq_false (fun e => c10 e.1))
              refine WM_skip rfl rfl rfl rfl ?_
              refine WM_skip rfl rfl rfl rfl ?_
              refine WM_skip rfl rfl rfl rfl ?_
              refine WM_skip rfl rfl rfl rfl ?_
              refine WM_skip rfl rfl rfl rfl ?_
              refine WM_skip rfl rfl rfl rfl ?_
              refine WM_skip rfl rfl rfl rfl ?_
              refine WM_val rfl rfl rfl rfl (R_pickF rfl rfl rfl) ?_
              refine WM_val rfl rfl rfl rfl (R_move rfl rfl) ?_
              refine WM_skip rfl rfl rfl rfl ?_
              refine WM_skip rfl rfl rfl rfl ?_
              refine WM_skip rfl rfl rfl rfl ?_
              refine WM_skip rfl rfl rfl rfl ?_
              refine WM_skip rfl rfl rfl rfl ?_
              refine WM_skip rfl rfl rfl rfl ?_
              refine WM_skip rfl rfl rfl rfl ?_
              refine WM_skip rfl rfl rfl rfl ?_
              refine WM_skip rfl rfl rfl rfl ?_
              refine WM_skip rfl rfl rfl rfl ?_
              refine WM_skip rfl rfl rfl rfl ?_
              refine WM_skip rfl rfl rfl rfl ?_
              refine WM_skip rfl rfl rfl rfl ?_
              refine WM_val rfl rfl rfl rfl (R_pickF rfl rfl rfl) ?_
              refine WM_nil ?_
              refine WQ_code ?_
              refine WC_F rfl ?_
              refine WC_skip ?_
              refine WQ_code ?_
              refine WC_region ?_
              refine WL_val rfl rfl rfl (R_move rfl rfl) ?_
              refine WL_val rfl rfl rfl (R_add rfl rfl rfl (by omega)) ?_
              refine WL_val rfl rfl rfl (R_assign rfl rfl) ?_
              refine WL_nil ?_
              refine WQ_nextF (⟨v.k + 1, v.o⟩) (⟨by dsimp only; omega, by first | exact hnx.symm | exact hvo.trans hnx.symm⟩) (by dsimp only; omega) leZ (psZ) rfl (pqZ)
          · have hkl : v.k = u.r.R.length := by omega
            rw [hkl] at hvo
            refine WC_exit ?_
            refine WQ_code ?_
            refine WC_seq ?_
            refine WC_seq ?_
            refine WC_region ?_
            refine WL_val rfl rfl rfl (R_move rfl rfl) ?_
            refine WL_val rfl rfl rfl (R_lss rfl rfl rfl) ?_
            refine WL_nil ?_
            refine WQ_code ?_
            refine WC_dec rfl (fun c14 => ?_) (fun c14 => ?_)
            · have hso : u.r.oldest now = none := hvo.symm.trans (optI_neg (by omega))
              have hadv := hu.done2 hm hkp hso
              refine WC_exit ?_
              refine WQ_code ?_
              refine WC_seq ?_
              refine WC_region ?_
              refine WL_val rfl rfl rfl (R_loadA (vs := [_, _, _, _, _, _, _]) rfl ag58 rfl (mmZ) rfl (atZ)) ?_
              refine WL_do0 rfl rfl (D_store (vs := [_, _, _, _, _, _, _]) rfl Try.sizeOf58 rfl rfl rfl rfl rfl (plZ) (by exact Nat.le_of_ble_eq_true rfl)) ?_
              rintro _ _ rfl
              refine WL_val rfl rfl rfl (R_assign rfl rfl) ?_
              refine WL_nil ?_
              refine WQ_code ?_
              refine WC_ret ?_
              refine WQ_ret rfl rfl (.cons (.cell (vs := [_, _, _, _, _, _, _]) rfl ag58 (mmZ) rfl (atZ)) (.cons (.tmp rfl) .nil)) rfl (by
                  rw [hadv]
                  first | exact ⟨_, rfl, rfl, h⟩ | exact ⟨_, rfl, rfl, hu.is⟩) (pqZ)
            · obtain ⟨j, hj⟩ := optI_pos (o := v.o) (by omega)
              have hso : u.r.oldest now = some j := hvo.symm.trans hj
              obtain ⟨hjk, w9, hw9, hp9⟩ := selK_lt (hvo.symm.trans hj)
              obtain ⟨wc, hwc⟩ := hu.is.c.some_of (by omega)
              refine WC_skip ?_
              refine WQ_code ?_
              refine WC_seq ?_
              refine WC_region ?_
              refine WL_val rfl rfl rfl (R_fieldAddr rfl fa58_4 rfl) ?_
              refine WL_val rfl rfl rfl (R_load rfl sc54 rfl (mmZ) rfl) ?_
              refine WL_val rfl rfl rfl (R_move rfl rfl) ?_
              refine WL_set (s := 119) (v := .int .i64 (j : Int)) rfl (by rw [hj]; rfl) ?_
              refine WL_val rfl rfl rfl (R_idxO hwc rfl Try.underlying54 Try.sizeOf139 rfl rfl (by omega)) ?_
              refine WL_val rfl rfl rfl (R_fieldAddr rfl fa139_0 rfl) ?_
              refine WL_val rfl rfl rfl (R_loadO (v := .int .i64 w9.num) hwc rfl sc3 rfl (mmZ) (fm_get0 encR4 hw9 (j := 0) (by omega))) ?_
              refine WL_val rfl rfl rfl (R_assign rfl rfl) ?_
              refine WL_nil ?_
              refine WQ_code ?_
              refine WC_region ?_
              refine WL_val rfl rfl rfl (R_loadA (vs := [_, _, _, _, _, _, _]) rfl ag58 rfl (mmZ) rfl (atZ)) ?_
              refine WL_val rfl rfl rfl (R_move rfl rfl) ?_
              refine WL_set (s := 124) (v := .int .i64 (j : Int)) rfl (by rw [hj]; rfl) ?_
              refine WL_do rfl rfl rfl (D_call (mwithout_ok hu.is j (by omega)) rfl rfl rfl rfl (pqZ)) ?_
              rintro _ _ ⟨_, ⟨cb3, cc3, ct3, rfl, rfl, g3⟩, rfl⟩
              refine WL_val rfl rfl rfl (R_move rfl rfl) ?_
              refine WL_do rfl rfl rfl (D_call (mtell_ok g3 5 (-1) w9.num (by show u.r.E.length < 100000; omega)) rfl rfl rfl rfl (pqZ)) ?_
              rintro _ _ ⟨_, ⟨eb5, ec5, et5, rfl, rfl, g5⟩, rfl⟩
              refine WL_do rfl rfl rfl (D_call (mnext_ok g5 (by simp [RS.tell, RS.without]; omega)) rfl rfl rfl rfl (pqZ)) ?_
              rintro _ _ ⟨_, ⟨M4, rfl, rfl, g4⟩, rfl⟩
              refine WL_do0 rfl rfl (D_store (vs := [_, _, _, _, _, _, _]) rfl Try.sizeOf58 rfl rfl rfl rfl rfl (plZ) (by exact Nat.le_of_ble_eq_true rfl)) ?_
              rintro _ _ rfl
              refine WL_nil ?_
              refine WQ_nextF (gg := u) (⟨u.n - 1, M4, ((u.r.without j).tell 5 (-1) w9.num).next⟩) ((hu.step2 hkp hso hw9 (of_decide_eq_true hp9).1 g4).1) ((hu.step2 hkp hso hw9 (of_decide_eq_true hp9).1 g4).2) leZ (psZ) rfl (pqZ)
        · have hadv := hu.done1 hm (by omega)
          refine WC_exit ?_
          refine WQ_code ?_
          refine WC_seq ?_
          refine WC_region ?_
          refine WL_val rfl rfl rfl (R_loadA (vs := [_, _, _, _, _, _, _]) rfl ag58 rfl (mmZ) rfl (atZ)) ?_
          refine WL_do0 rfl rfl (D_store (vs := [_, _, _, _, _, _, _]) rfl Try.sizeOf58 rfl rfl rfl rfl rfl (plZ) (by exact Nat.le_of_ble_eq_true rfl)) ?_
          rintro _ _ rfl
          refine WL_val rfl rfl rfl (R_assign rfl rfl) ?_
          refine WL_nil ?_
          refine WQ_code ?_
          refine WC_ret ?_
          refine WQ_ret rfl rfl (.cons (.cell (vs := [_, _, _, _, _, _, _]) rfl ag58 (mmZ) rfl (atZ)) (.cons (.tmp rfl) .nil)) rfl (by
              rw [hadv]
              first | exact ⟨_, rfl, rfl, h⟩ | exact ⟨_, rfl, rfl, hu.is⟩) (pqZ)
      · obtain ⟨j, hj⟩ := optI_pos (o := z.o) (by omega)
        have hso : y.r.soon now = some j := hzo.symm.trans hj
        obtain ⟨hjk, w9, hw9, _⟩ := selK_lt (hzo.symm.trans hj)
        obtain ⟨wq, hwq⟩ := hy.is.q.some_of (by omega)
        refine WC_skip ?_
        refine WQ_code ?_
        refine WC_seq ?_
        refine WC_region ?_
        refine WL_val rfl rfl rfl (R_fieldAddr rfl fa58_5 rfl) ?_
        refine WL_val rfl rfl rfl (R_load rfl sc55 rfl (mmZ) rfl) ?_
        refine WL_val rfl rfl rfl (R_move rfl rfl) ?_
        refine WL_set (s := 63) (v := .int .i64 (j : Int)) rfl (by rw [hj]; rfl) ?_
        refine WL_val rfl rfl rfl (R_idxO hwq rfl Try.underlying55 Try.sizeOf144 rfl rfl (by omega)) ?_
        refine WL_val rfl rfl rfl (R_fieldAddr rfl fa144_0 rfl) ?_
        refine WL_val rfl rfl rfl (R_loadO (v := .int .i64 w9.1) hwq rfl sc3 rfl (mmZ) (fm_get0 encP2 hw9 (j := 0) (by omega))) ?_
        refine WL_val rfl rfl rfl (R_assign rfl rfl) ?_
        refine WL_nil ?_
        refine WQ_code ?_
        refine WC_region ?_
        refine WL_val rfl rfl rfl (R_loadA (vs := [_, _, _, _, _, _, _]) rfl ag58 rfl (mmZ) rfl (atZ)) ?_
        refine WL_val rfl rfl rfl (R_move rfl rfl) ?_
        refine WL_do rfl rfl rfl (D_call (mleave_ok hy.is w9.1) rfl rfl rfl rfl (pqZ)) ?_
        rintro _ _ ⟨_, ⟨qb3, qc3, qt3, rfl, rfl, g3⟩, rfl⟩
        refine WL_val rfl rfl rfl (R_move rfl rfl) ?_
        refine WL_do rfl rfl rfl (D_call (mtell_ok g3 4 w9.1 (-1) (by show y.r.E.length < 100000; omega)) rfl rfl rfl rfl (pqZ)) ?_
        rintro _ _ ⟨_, ⟨eb5, ec5, et5, rfl, rfl, g5⟩, rfl⟩
        refine WL_do0 rfl rfl (D_store (vs := [_, _, _, _, _, _, _]) rfl Try.sizeOf58 rfl rfl rfl rfl rfl (plZ) (by exact Nat.le_of_ble_eq_true rfl)) ?_
        rintro _ _ rfl
        refine WL_nil ?_
        refine WQ_nextF (gg := y) (⟨y.n - 1, { y.M with qb := qb3, qc := qc3, qtl := qt3, eb := eb5, ek := 0, ec := ec5, epre := [], etl := et5 }, (y.r.leave w9.1).tell 4 w9.1 (-1)⟩) ((hy.step2 hso hw9 g5).1) ((hy.step2 hso hw9 g5).2) leZ (psZ) rfl (pqZ)
end Go.Proofs.Yteofigbgdbpjgaa
end
section
set_option linter.unusedVariables false
set_option maxRecDepth 20000
set_option maxHeartbeats 2000000
namespace Go.Proofs.Yteofigbgdbpjgaa
/-- What a call does to a pool, ars far ars the bounds go. -/
structure StR (s s' : PS) : Prop where
  ph : PH s'
  w : wt s' ≤ wt s + 1
  n : s'.n ≤ s.n + 1
  len : s'.E.length ≤ s.E.length + s.Q.length + 128
theorem OpR.st {s s' : PS} {h : Nat → Int} {now : Nat} (r : OpR s s' h now) : StR s s' := ⟨r.ph, r.w, r.n, r.len⟩
theorem st_refl {s : PS} (h : PH s) : StR s s := ⟨h, Nat.le_succ _, Nat.le_succ _, by omega⟩
theorem getS_E (s : PS) (who : Int) (now dl : Nat) : (s.getS who now dl).E = s.E := by
  unfold PS.getS
  split
  · rfl
  · split
    · rfl
    · split <;> rfl
theorem st_get {s : PS} (h : PH s) (who : Int) (now dl : Nat) : StR s (s.getS who now dl) := by
  by_cases he : getE_ s who now dl = 0
  · obtain ⟨a, b, c, _, _, _, d, _⟩ := get_ev h he
    exact ⟨a, b, c, by rw [d]; omega⟩
  · rw [(get_err he).1]; exact st_refl h
theorem st_dialed {s : PS} (h : PH s) (c : Int) (made : Bool) (now : Nat) : StR s (s.dialed c made now) := by
  by_cases he : s.inE c 1 now = 0
  · obtain ⟨_, _, _, _, r⟩ := dialed_R h he made
    exact r.st
  · rw [dialed_no he]; exact st_refl h
theorem st_put {s : PS} (h : PH s) (c : Int) (good : Bool) (now : Nat) : StR s (s.put c good now) := by
  by_cases he : s.inE c 2 now = 0
  · obtain ⟨_, _, _, _, r⟩ := put_R h he good
    exact r.st
  · rw [put_no he]; exact st_refl h
theorem st_cancel {s : PS} (h : PH s) (who : Int) (now : Nat) : StR s (s.cancel who now) := by
  by_cases he : s.canE who now = 0
  · exact (cancel_R h he).st
  · unfold PS.cancel; rw [if_pos he]; exact st_refl h
theorem st_adv {s : PS} (h : PH s) (now : Nat) : StR s (s.advance now) := by
  by_cases hm : s.may true now = 0
  · exact (adv_R h hm).st
  · unfold PS.advance; rw [if_pos hm]; exact st_refl h
theorem st_nx {s : PS} (h : PH s) : StR s s.nx := ⟨h.dry _, Nat.le_succ _, Nat.le_succ _, by show (s.E.drop 1).length ≤ _; rw [List.length_drop]; omega⟩
theorem kget_ok {M : MM} {s : PS} (hM : MIs M (rsOf s)) (hw : PW s) (hQ : s.Q.length ≤ 1000) (who : Int) (now dl : Nat) : Spec Try.prog 58 [mdV M (rsOf s), .int .i64 who, .int .u64 (now : Int), .int .u64 (dl : Int)] (mdH M (rsOf s)) (fun v H' => ∃ M', v = .tuple #[mdV M' (rsOf (s.getS who now dl)), pvV (s.getV who now dl), .int .i64 (getE_ s who now dl)] ∧ H' = mdH M' (rsOf (s.getS who now dl)) ∧ MIs M' (rsOf (s.getS who now dl))) := by
  have h := mget_ok hM (by show (qpF s.Q).length ≤ 1000; rw [List.length_map]; exact hQ) who now dl
  rw [ro_get hw] at h; exact h
theorem kdialed_ok {M : MM} {s : PS} (hM : MIs M (rsOf s)) (hw : PW s) (hE : s.E.length ≤ 60000) (c : Int) (made : Bool) (now : Nat) : Spec Try.prog 59 [mdV M (rsOf s), .int .i64 c, .bool made, .int .u64 (now : Int)] (mdH M (rsOf s)) (fun v H' => ∃ M', v = .tuple #[mdV M' (rsOf (s.dialed c made now)), .int .i64 (s.inE c 1 now)] ∧ H' = mdH M' (rsOf (s.dialed c made now)) ∧ MIs M' (rsOf (s.dialed c made now))) := by
  have h := mdialed_ok hM hE c made now
  rw [ro_dialed hw] at h; exact h
theorem kput_ok {M : MM} {s : PS} (hM : MIs M (rsOf s)) (hw : PW s) (hE : s.E.length ≤ 60000) (c : Int) (good : Bool) (now : Nat) : Spec Try.prog 60 [mdV M (rsOf s), .int .i64 c, .bool good, .int .u64 (now : Int)] (mdH M (rsOf s)) (fun v H' => ∃ M', v = .tuple #[mdV M' (rsOf (s.put c good now)), .int .i64 (s.inE c 2 now)] ∧ H' = mdH M' (rsOf (s.put c good now)) ∧ MIs M' (rsOf (s.put c good now))) := by
  have h := mput_ok hM hE c good now
  rw [ro_put hw] at h; exact h
theorem kadv_ok {M : MM} {s : PS} (hM : MIs M (rsOf s)) (hw : PW s) (hE : s.E.length ≤ 60000) (now : Nat) (hb : now ≤ 18446744073709551615) : Spec Try.prog 64 [mdV M (rsOf s), .int .u64 (now : Int)] (mdH M (rsOf s)) (fun v H' => ∃ M', v = .tuple #[mdV M' (rsOf (s.advance now)), .int .i64 (s.may true now)] ∧ H' = mdH M' (rsOf (s.advance now)) ∧ MIs M' (rsOf (s.advance now))) := by
  have h := madv_ok hM hE (fun x hx => by
    obtain ⟨i, y, hy, _, rfl⟩ := rcF_mem hx
    exact hw.si y (List.mem_of_getElem? hy)) now hb
  rw [ro_adv hw now hb] at h; exact h
theorem pnext_or {m : PM} {s : PS} (h : PIs m s) : Spec Try.prog 23 [ptrP m.p] (poH m s) (fun v H' => ∃ m', ((s.E = [] ∧ v = .tuple #[.agg #[.int .i64 0, .int .i64 0, .int .i64 0], .bool false]) ∨ (∃ x r, s.E = x :: r ∧ v = .tuple #[pvV x, .bool true])) ∧ H' = poH m' s.nx ∧ m'.p = m.p ∧ PIs m' s.nx) := by
  cases hE : s.E with
  | nil =>
    have hnx : s.nx = s := by unfold PS.nx; rw [hE]; show { s with E := [] } = s; rw [← hE]
    rw [hnx]
    exact (pnext_none h hE).mono fun v H' ⟨h1, h2⟩ => ⟨m, .inl ⟨rfl, h1⟩, h2, rfl, h⟩
  | cons x r => exact (pnext_some h hE).mono fun v H' ⟨m', h1, h2, h3, h4⟩ => ⟨m', .inr ⟨x, r, rfl, h1⟩, h2, h3, h4⟩
theorem MIs.nx {M : MM} {s : PS} {x : Pv} {r : List Pv} (h : MIs M (rsOf s)) (hE : s.E = x :: r) : MIs { M with ek := if M.ec = 1 then M.ek else M.ek + 3, ec := M.ec - 1, epre := M.epre ++ encV x } (rsOf s.nx) := by
  have he := h.e
  have hl := h.el
  have hel : (rsOf s).E = x :: r := hE
  rw [hel] at he hl
  have hnx : s.nx.E = r := by unfold PS.nx; rw [hE]; rfl
  refine ⟨h.c, h.q, ?_, h.cl, h.ql, ?_, h.op, fun e => ?_⟩
  · have := he.cut (ys := encV x) (zs := r.flatMap encV) (m := r.length) rfl rfl rfl
    show OwnS _ _ s.nx.E.length _ 3 _ (s.nx.E.flatMap encV) _
    rw [hnx]; exact this
  · show s.nx.E.length ≤ _; rw [hnx]; simp at hl; omega
  · obtain ⟨wb, hwb⟩ := he.some_of (Nat.succ_pos _)
    rw [show M.eb = none from e] at hwb; cases hwb
end Go.Proofs.Yteofigbgdbpjgaa
end
section
set_option linter.unusedVariables false
set_option maxRecDepth 20000
set_option maxHeartbeats 1000000
namespace Go.Proofs.Yteofigbgdbpjgaa
theorem pnew_bad (op most : Int) (keep : Nat) (hbad : op < 1 ∨ 64 < op ∨ most < 0 ∨ 64 < most ∨ keep < 1) : Spec Try.prog 8 [.int .i64 op, .int .i64 most, .int .u64 (keep : Int)] [] (fun r H' => r = .tuple #[.pointer none, .int .i64 2] ∧ H' = []) := by
  refine Spec.of (E := [(0, .int .i64 op), (1, .int .i64 most), (2, .int .u64 (keep : Int))]) Try.func8 rfl (by kernel_rfl) Try.ntmps8 rfl rfl (fun w => ?_)
  refine WC_seq ?_
  refine WC_region ?_
  refine WL_val rfl rfl rfl (R_assign rfl rfl) ?_
  refine WL_val rfl rfl rfl (R_assign rfl rfl) ?_
  refine WL_nil ?_
  refine WQ_code ?_
  refine WC_seq ?_
  refine WC_seq ?_
  refine WC_region ?_
  refine WL_val rfl rfl rfl (R_move rfl rfl) ?_
  refine WL_val rfl rfl rfl (R_lss rfl rfl rfl) ?_
  refine WL_val rfl rfl rfl (R_move rfl rfl) ?_
  refine WL_splitD (s := 10) rfl (fun c1 => ?_) (fun c1 => ?_)
  · refine WL_skip rfl rfl rfl ?_
    refine WL_skip rfl rfl rfl ?_
    refine WL_val rfl rfl rfl (R_pickT rfl rfl rfl) ?_
    refine WL_val rfl rfl rfl (R_move rfl rfl) ?_
    refine WL_skip rfl rfl rfl ?_
    refine WL_skip rfl rfl rfl ?_
    refine WL_val rfl rfl rfl (R_pickT rfl rfl rfl) ?_
    refine WL_val rfl rfl rfl (R_move rfl rfl) ?_
    refine WL_skip rfl rfl rfl ?_
    refine WL_skip rfl rfl rfl ?_
    refine WL_val rfl rfl rfl (R_pickT rfl rfl rfl) ?_
    refine WL_val rfl rfl rfl (R_move rfl rfl) ?_
    refine WL_skip rfl rfl rfl ?_
    refine WL_skip rfl rfl rfl ?_
    refine WL_val rfl rfl rfl (R_pickT rfl rfl rfl) ?_
    refine WL_nil ?_
    refine WQ_code ?_
    refine WC_T rfl ?_
    refine WC_seq ?_
    refine WC_region ?_
    refine WL_val rfl rfl rfl (R_assign rfl rfl) ?_
    refine WL_val rfl rfl rfl (R_assign rfl rfl) ?_
    refine WL_nil ?_
    refine WQ_code ?_
    refine WC_ret ?_
    refine WQ_ret rfl rfl (.cons (.tmp rfl) (.cons (.tmp rfl) .nil)) rfl (by
        exact ⟨rfl, rfl⟩) (pqZ)
  · refine WL_val rfl rfl rfl (R_move rfl rfl) ?_
    refine WL_val rfl rfl rfl (R_gtr rfl rfl rfl) ?_
    refine WL_val rfl rfl rfl (R_pickF rfl rfl rfl) ?_
    refine WL_val rfl rfl rfl (R_move rfl rfl) ?_
    refine WL_splitD (s := 14) rfl (fun c2 => ?_) (fun c2 => ?_)
    · refine WL_skip rfl rfl rfl ?_
      refine WL_skip rfl rfl rfl ?_
      refine WL_val rfl rfl rfl (R_pickT rfl rfl rfl) ?_
      refine WL_val rfl rfl rfl (R_move rfl rfl) ?_
      refine WL_skip rfl rfl rfl ?_
      refine WL_skip rfl rfl rfl ?_
      refine WL_val rfl rfl rfl (R_pickT rfl rfl rfl) ?_
      refine WL_val rfl rfl rfl (R_move rfl rfl) ?_
      refine WL_skip rfl rfl rfl ?_
      refine WL_skip rfl rfl rfl ?_
      refine WL_val rfl rfl rfl (R_pickT rfl rfl rfl) ?_
      refine WL_nil ?_
      refine WQ_code ?_
      refine WC_T rfl ?_
      refine WC_seq ?_
      refine WC_region ?_
      refine WL_val rfl rfl rfl (R_assign rfl rfl) ?_
      refine WL_val rfl rfl rfl (R_assign rfl rfl) ?_
      refine WL_nil ?_
      refine WQ_code ?_
      refine WC_ret ?_
      refine WQ_ret rfl rfl (.cons (.tmp rfl) (.cons (.tmp rfl) .nil)) rfl (by
          exact ⟨rfl, rfl⟩) (pqZ)
    · refine WL_val rfl rfl rfl (R_move rfl rfl) ?_
      refine WL_val rfl rfl rfl (R_lss rfl rfl rfl) ?_
      refine WL_val rfl rfl rfl (R_pickF rfl rfl rfl) ?_
      refine WL_val rfl rfl rfl (R_move rfl rfl) ?_
      refine WL_splitD (s := 18) rfl (fun c3 => ?_) (fun c3 => ?_)
      · refine WL_skip rfl rfl rfl ?_
        refine WL_skip rfl rfl rfl ?_
        refine WL_val rfl rfl rfl (R_pickT rfl rfl rfl) ?_
        refine WL_val rfl rfl rfl (R_move rfl rfl) ?_
        refine WL_skip rfl rfl rfl ?_
        refine WL_skip rfl rfl rfl ?_
        refine WL_val rfl rfl rfl (R_pickT rfl rfl rfl) ?_
        refine WL_nil ?_
        refine WQ_code ?_
        refine WC_T rfl ?_
        refine WC_seq ?_
        refine WC_region ?_
        refine WL_val rfl rfl rfl (R_assign rfl rfl) ?_
        refine WL_val rfl rfl rfl (R_assign rfl rfl) ?_
        refine WL_nil ?_
        refine WQ_code ?_
        refine WC_ret ?_
        refine WQ_ret rfl rfl (.cons (.tmp rfl) (.cons (.tmp rfl) .nil)) rfl (by
            exact ⟨rfl, rfl⟩) (pqZ)
      · refine WL_val rfl rfl rfl (R_move rfl rfl) ?_
        refine WL_val rfl rfl rfl (R_gtr rfl rfl rfl) ?_
        refine WL_val rfl rfl rfl (R_pickF rfl rfl rfl) ?_
        refine WL_val rfl rfl rfl (R_move rfl rfl) ?_
        refine WL_splitD (s := 22) rfl (fun c4 => ?_) (fun c4 => ?_)
        · refine WL_skip rfl rfl rfl ?_
          refine WL_skip rfl rfl rfl ?_
          refine WL_val rfl rfl rfl (R_pickT rfl rfl rfl) ?_
          refine WL_nil ?_
          refine WQ_code ?_
          refine WC_T rfl ?_
          refine WC_seq ?_
          refine WC_region ?_
          refine WL_val rfl rfl rfl (R_assign rfl rfl) ?_
          refine WL_val rfl rfl rfl (R_assign rfl rfl) ?_
          refine WL_nil ?_
          refine WQ_code ?_
          refine WC_ret ?_
          refine WQ_ret rfl rfl (.cons (.tmp rfl) (.cons (.tmp rfl) .nil)) rfl (by
              exact ⟨rfl, rfl⟩) (pqZ)
        · refine WL_val rfl rfl rfl (R_move rfl rfl) ?_
          refine WL_val rfl rfl rfl (R_lss rfl rfl rfl) ?_
          refine WL_val rfl rfl rfl (R_pickF rfl rfl rfl) ?_
          refine WL_nil ?_
          refine WQ_code ?_
          refine WC_dT rfl (by omega) ?_
          refine WC_seq ?_
          refine WC_region ?_
          refine WL_val rfl rfl rfl (R_assign rfl rfl) ?_
          refine WL_val rfl rfl rfl (R_assign rfl rfl) ?_
          refine WL_nil ?_
          refine WQ_code ?_
          refine WC_ret ?_
          refine WQ_ret rfl rfl (.cons (.tmp rfl) (.cons (.tmp rfl) .nil)) rfl (by
              exact ⟨rfl, rfl⟩) (pqZ)
theorem PIs.new (b1 pq pm mb : Nat) {op most keep : Nat} (h1 : 1 ≤ op ∧ op ≤ 64) (h2 : most ≤ 64) (h3 : 1 ≤ keep ∧ keep ≤ 18446744073709551615) : PIs (⟨b1, pq, pm, #[], 0, mb, #[], 0, none, 0, 0, [], []⟩ : PM) (PS.new op most keep) :=
  ⟨by simp [PS.new], Qk.empty 0, mp_new, Mk.empty, OwnS.empty 3, fun x hx => (by cases hx), h1, h2, fun x hx => by rw [List.eq_of_mem_replicate hx]; exact Nat.zero_le _, Nat.zero_le _, h3, fun x hx => by rw [List.eq_of_mem_replicate hx]; exact ⟨by decide, by decide⟩⟩
theorem pnew_ok (op most keep : Nat) (h1 : 1 ≤ op ∧ op ≤ 64) (h2 : most ≤ 64) (h3 : 1 ≤ keep ∧ keep ≤ 18446744073709551615) : Spec Try.prog 8 [.int .i64 (op : Int), .int .i64 (most : Int), .int .u64 (keep : Int)] [] (fun r H' => ∃ m, r = .tuple #[ptrP m.p, .int .i64 0] ∧ H' = poH m (PS.new op most keep) ∧ PIs m (PS.new op most keep)) := by
  refine Spec.of (E := [(0, .int .i64 (op : Int)), (1, .int .i64 (most : Int)), (2, .int .u64 (keep : Int))]) Try.func8 rfl (by kernel_rfl) Try.ntmps8 rfl rfl (fun w => ?_)
  refine WC_seq ?_
  refine WC_region ?_
  refine WL_val rfl rfl rfl (R_assign rfl rfl) ?_
  refine WL_val rfl rfl rfl (R_assign rfl rfl) ?_
  refine WL_nil ?_
  refine WQ_code ?_
  refine WC_seq ?_
  refine WC_seq ?_
  refine WC_region ?_
  refine WL_val rfl rfl rfl (R_move rfl rfl) ?_
  refine WL_val rfl rfl rfl (R_lss rfl rfl rfl) ?_
  refine WL_val rfl rfl rfl (R_move rfl rfl) ?_
  refine WL_set (s := 10) (v := .bool false) rfl (by simp <;> omega) ?_
  refine WL_val rfl rfl rfl (R_move rfl rfl) ?_
  refine WL_val rfl rfl rfl (R_gtr rfl rfl rfl) ?_
  refine WL_val rfl rfl rfl (R_pickF rfl rfl rfl) ?_
  refine WL_val rfl rfl rfl (R_move rfl rfl) ?_
  refine WL_set (s := 14) (v := .bool false) rfl (by simp <;> omega) ?_
  refine WL_val rfl rfl rfl (R_move rfl rfl) ?_
  refine WL_val rfl rfl rfl (R_lss rfl rfl rfl) ?_
  refine WL_val rfl rfl rfl (R_pickF rfl rfl rfl) ?_
  refine WL_val rfl rfl rfl (R_move rfl rfl) ?_
  refine WL_set (s := 18) (v := .bool false) rfl (by simp <;> omega) ?_
  refine WL_val rfl rfl rfl (R_move rfl rfl) ?_
  refine WL_val rfl rfl rfl (R_gtr rfl rfl rfl) ?_
  refine WL_val rfl rfl rfl (R_pickF rfl rfl rfl) ?_
  refine WL_val rfl rfl rfl (R_move rfl rfl) ?_
  refine WL_set (s := 22) (v := .bool false) rfl (by simp <;> omega) ?_
  refine WL_val rfl rfl rfl (R_move rfl rfl) ?_
  refine WL_val rfl rfl rfl (R_lss rfl rfl rfl) ?_
  refine WL_val rfl rfl rfl (R_pickF rfl rfl rfl) ?_
  refine WL_nil ?_
  refine WQ_code ?_
  refine WC_dF rfl (by omega) ?_
  refine WC_skip ?_
  refine WQ_code ?_
  refine WC_seq ?_
  refine WC_region ?_
  refine WL_none 44 ?_
  refine WL_val rfl rfl rfl (R_move rfl rfl) ?_
  refine WL_val rfl rfl rfl (R_move rfl rfl) ?_
  refine WL_val rfl rfl rfl (R_move rfl rfl) ?_
  refine WL_do rfl rfl rfl (D_call (qnew_ok) rfl rfl rfl rfl (pqZ)) ?_
  rintro _ _ ⟨_, ⟨pq, pm, rfl, rfl⟩, rfl⟩
  refine WL_do rfl rfl rfl (D_makeMap rfl) ?_
  rintro _ _ ⟨mb, rfl, rfl⟩
  refine WL_val rfl rfl rfl (R_build (cs := pC ⟨0, pq, pm, #[], 0, mb, #[], 0, none, 0, 0, [], []⟩ (PS.new op most keep)) rfl zv71 pl71 rfl (by kernel_rfl)) ?_
  refine WL_do rfl rfl rfl (D_box (cs := pC ⟨0, pq, pm, #[], 0, mb, #[], 0, none, 0, 0, [], []⟩ (PS.new op most keep)) rfl rfl rfl) ?_
  rintro _ _ ⟨b1, rfl, rfl⟩
  refine WL_val rfl rfl rfl (R_assign rfl rfl) ?_
  refine WL_val rfl rfl rfl (R_assign rfl rfl) ?_
  refine WL_nil ?_
  refine WQ_code ?_
  refine WC_ret ?_
  refine WQ_ret rfl rfl (.cons (.tmp rfl) (.cons (.tmp rfl) .nil)) rfl (by
      exact ⟨(⟨b1, pq, pm, #[], 0, mb, #[], 0, none, 0, 0, [], []⟩ : PM), rfl, rfl, PIs.new b1 pq pm mb h1 h2 h3⟩) (pqZ)
end Go.Proofs.Yteofigbgdbpjgaa
end
section
set_option linter.unusedVariables false
set_option maxRecDepth 20000
set_option maxHeartbeats 2000000
namespace Go.Proofs.Yteofigbgdbpjgaa
theorem valid_ok (op most : Int) (keep : Nat) : Spec Try.prog 14 [.int .i64 op, .int .i64 most, .int .u64 (keep : Int)] [] (fun r H' => r = .bool (vB op most keep) ∧ H' = []) := by
  refine Spec.of (E := [(0, .int .i64 op), (1, .int .i64 most), (2, .int .u64 (keep : Int))]) Try.func14 rfl (by kernel_rfl) Try.ntmps14 rfl rfl (fun w => ?_)
  refine WC_seq ?_
  refine WC_region ?_
  refine WL_val rfl rfl rfl (R_assign rfl rfl) ?_
  refine WL_nil ?_
  refine WQ_code ?_
  refine WC_seq ?_
  refine WC_region ?_
  refine WL_val rfl rfl rfl (R_move rfl rfl) ?_
  refine WL_val rfl rfl rfl (R_geq rfl rfl rfl) ?_
  refine WL_val rfl rfl rfl (R_move rfl rfl) ?_
  refine WL_splitD (s := 9) rfl (fun c1 => ?_) (fun c1 => ?_)
  · refine WL_val rfl rfl rfl (R_move rfl rfl) ?_
    refine WL_val rfl rfl rfl (R_leq rfl rfl rfl) ?_
    refine WL_val rfl rfl rfl (R_pickT rfl rfl rfl) ?_
    refine WL_val rfl rfl rfl (R_move rfl rfl) ?_
    refine WL_splitD (s := 13) rfl (fun c2 => ?_) (fun c2 => ?_)
    · refine WL_val rfl rfl rfl (R_move rfl rfl) ?_
      refine WL_val rfl rfl rfl (R_geq rfl rfl rfl) ?_
      refine WL_val rfl rfl rfl (R_pickT rfl rfl rfl) ?_
      refine WL_val rfl rfl rfl (R_move rfl rfl) ?_
      refine WL_splitD (s := 17) rfl (fun c3 => ?_) (fun c3 => ?_)
      · refine WL_val rfl rfl rfl (R_move rfl rfl) ?_
        refine WL_val rfl rfl rfl (R_leq rfl rfl rfl) ?_
        refine WL_val rfl rfl rfl (R_pickT rfl rfl rfl) ?_
        refine WL_val rfl rfl rfl (R_move rfl rfl) ?_
        refine WL_splitD (s := 21) rfl (fun c4 => ?_) (fun c4 => ?_)
        · refine WL_val rfl rfl rfl (R_move rfl rfl) ?_
          refine WL_val rfl rfl rfl (R_geq rfl rfl rfl) ?_
          refine WL_val rfl rfl rfl (R_pickT rfl rfl rfl) ?_
          refine WL_val rfl rfl rfl (R_assign rfl rfl) ?_
          refine WL_nil ?_
          refine WQ_code ?_
          refine WC_ret ?_
          refine WQ_ret rfl rfl (.cons (.tmp rfl) .nil) rfl (by
              first | exact ⟨congrArg Value.bool (decide_eq_decide.2 (by omega)), rfl⟩ | exact ⟨congrArg Value.bool (decide_eq_false (by omega)).symm, rfl⟩) (pqZ)
        · refine WL_skip rfl rfl rfl ?_
          refine WL_skip rfl rfl rfl ?_
          refine WL_val rfl rfl rfl (R_pickF rfl rfl rfl) ?_
          refine WL_val rfl rfl rfl (R_assign rfl rfl) ?_
          refine WL_nil ?_
          refine WQ_code ?_
          refine WC_ret ?_
          refine WQ_ret rfl rfl (.cons (.tmp rfl) .nil) rfl (by
              first | exact ⟨congrArg Value.bool (decide_eq_decide.2 (by omega)), rfl⟩ | exact ⟨congrArg Value.bool (decide_eq_false (by omega)).symm, rfl⟩) (pqZ)
      · refine WL_skip rfl rfl rfl ?_
        refine WL_skip rfl rfl rfl ?_
        refine WL_val rfl rfl rfl (R_pickF rfl rfl rfl) ?_
        refine WL_val rfl rfl rfl (R_move rfl rfl) ?_
        refine WL_skip rfl rfl rfl ?_
        refine WL_skip rfl rfl rfl ?_
        refine WL_val rfl rfl rfl (R_pickF rfl rfl rfl) ?_
        refine WL_val rfl rfl rfl (R_assign rfl rfl) ?_
        refine WL_nil ?_
        refine WQ_code ?_
        refine WC_ret ?_
        refine WQ_ret rfl rfl (.cons (.tmp rfl) .nil) rfl (by
            first | exact ⟨congrArg Value.bool (decide_eq_decide.2 (by omega)), rfl⟩ | exact ⟨congrArg Value.bool (decide_eq_false (by omega)).symm, rfl⟩) (pqZ)
    · refine WL_skip rfl rfl rfl ?_
      refine WL_skip rfl rfl rfl ?_
      refine WL_val rfl rfl rfl (R_pickF rfl rfl rfl) ?_
      refine WL_val rfl rfl rfl (R_move rfl rfl) ?_
      refine WL_skip rfl rfl rfl ?_
      refine WL_skip rfl rfl rfl ?_
      refine WL_val rfl rfl rfl (R_pickF rfl rfl rfl) ?_
      refine WL_val rfl rfl rfl (R_move rfl rfl) ?_
      refine WL_skip rfl rfl rfl ?_
      refine WL_skip rfl rfl rfl ?_
      refine WL_val rfl rfl rfl (R_pickF rfl rfl rfl) ?_
      refine WL_val rfl rfl rfl (R_assign rfl rfl) ?_
      refine WL_nil ?_
      refine WQ_code ?_
      refine WC_ret ?_
      refine WQ_ret rfl rfl (.cons (.tmp rfl) .nil) rfl (by
          first | exact ⟨congrArg Value.bool (decide_eq_decide.2 (by omega)), rfl⟩ | exact ⟨congrArg Value.bool (decide_eq_false (by omega)).symm, rfl⟩) (pqZ)
  · refine WL_skip rfl rfl rfl ?_
    refine WL_skip rfl rfl rfl ?_
    refine WL_val rfl rfl rfl (R_pickF rfl rfl rfl) ?_
    refine WL_val rfl rfl rfl (R_move rfl rfl) ?_
    refine WL_skip rfl rfl rfl ?_
    refine WL_skip rfl rfl rfl ?_
    refine WL_val rfl rfl rfl (R_pickF rfl rfl rfl) ?_
    refine WL_val rfl rfl rfl (R_move rfl rfl) ?_
    refine WL_skip rfl rfl rfl ?_
    refine WL_skip rfl rfl rfl ?_
    refine WL_val rfl rfl rfl (R_pickF rfl rfl rfl) ?_
    refine WL_val rfl rfl rfl (R_move rfl rfl) ?_
    refine WL_skip rfl rfl rfl ?_
    refine WL_skip rfl rfl rfl ?_
    refine WL_val rfl rfl rfl (R_pickF rfl rfl rfl) ?_
    refine WL_val rfl rfl rfl (R_assign rfl rfl) ?_
    refine WL_nil ?_
    refine WQ_code ?_
    refine WC_ret ?_
    refine WQ_ret rfl rfl (.cons (.tmp rfl) .nil) rfl (by
        first | exact ⟨congrArg Value.bool (decide_eq_decide.2 (by omega)), rfl⟩ | exact ⟨congrArg Value.bool (decide_eq_false (by omega)).symm, rfl⟩) (pqZ)
end Go.Proofs.Yteofigbgdbpjgaa
end
section
set_option linter.unusedVariables false
set_option maxRecDepth 20000
set_option maxHeartbeats 8000000
namespace Go.Proofs.Yteofigbgdbpjgaa
theorem sp_mk {s : PS} {v : Value} {H' : Heap} {r' : RS} (m' : PM) (s' : PS) (M' : MM) (e : rsOf s' = r') (hv : v = .tuple #[ptrP m'.p, mdV M' r', .bool true]) (hH : H' = mdH M' r' ++ poH m' s') (h1 : PIs m' s') (h2 : MIs M' r') (h3 : StR s s') : (fun v H' => ∃ m' s' M', v = .tuple #[ptrP m'.p, mdV M' (rsOf s'), .bool true] ∧ H' = mdH M' (rsOf s') ++ poH m' s' ∧ PIs m' s' ∧ MIs M' (rsOf s') ∧ StR s s') v H' := by
  subst e
  exact ⟨m', s', M', hv, hH, h1, h2, h3⟩
theorem mstep_ok {m : PM} {M : MM} {s : PS} (h : PIs m s) (hM : MIs M (rsOf s)) (hph : PH s) (hwt : wt s ≤ 40) (hE : s.E.length ≤ 9000) (hn : s.n ≤ 40) (a : Ac46) (hb : a.now ≤ 18446744073709551615) (hd : a.dl ≤ 18446744073709551615) : Spec Try.prog 22 [ptrP m.p, mdV M (rsOf s), .agg (encA46 a).toArray] (mdH M (rsOf s) ++ poH m s) (fun v H' => ∃ m' s' M', v = .tuple #[ptrP m'.p, mdV M' (rsOf s'), .bool true] ∧ H' = mdH M' (rsOf s') ++ poH m' s' ∧ PIs m' s' ∧ MIs M' (rsOf s') ∧ StR s s') := by
  have hw := h.pw hph
  have hql := q_wt s
  have hE2 : s.E.length ≤ 10000 := by omega
  have hE3 : s.E.length ≤ 60000 := by omega
  have hQ : s.Q.length ≤ 1000 := by omega
  have hn2 : s.n < 1000000000000 := by omega
  have h19 : s.cnt 3 ≤ 19 := by rw [cnt_cn]; have h9 := hwt; unfold wt at h9; omega
  have hrE : (rsOf s).E = s.E := rfl
  refine Spec.of (E := [(0, ptrP m.p), (1, mdV M (rsOf s)), (2, .agg (encA46 a).toArray)]) Try.func22 rfl (by kernel_rfl) Try.ntmps22 rfl rfl (fun w => ?_)
  refine WC_seq ?_
  refine WC_region ?_
  refine WL_do rfl rfl rfl (D_box (cs := [_, _, _, _, _, _, _]) rfl rfl rfl) ?_
  rintro _ _ ⟨b1, rfl, rfl⟩
  refine WL_do rfl rfl rfl (D_box (cs := [_, _, _, _, _]) rfl rfl rfl) ?_
  rintro _ _ ⟨b2, rfl, rfl⟩
  refine WL_val rfl rfl rfl (R_assign rfl rfl) ?_
  refine WL_do rfl rfl rfl (D_alloc rfl zv58) ?_
  rintro _ _ ⟨b3, rfl, rfl⟩
  refine WL_val rfl rfl rfl (R_assign rfl rfl) ?_
  refine WL_nil ?_
  refine WQ_code ?_
  refine WC_seq ?_
  refine WC_seq ?_
  refine WC_region ?_
  refine WL_val rfl rfl rfl (R_fieldAddr rfl fa41_0 rfl) ?_
  refine WL_val rfl rfl rfl (R_load rfl sc3 rfl (mmZ) rfl) ?_
  refine WL_nil ?_
  refine WQ_code ?_
  refine WC_block ?_
  refine WC_seq ?_
  refine WC_region ?_
  refine WL_val rfl rfl rfl (R_eql rfl rfl rfl) ?_
  refine WL_val rfl rfl rfl (R_assign rfl rfl) ?_
  refine WL_nil ?_
  refine WQ_code ?_
  refine WC_dec rfl (fun c1 => ?_) (fun c1 => ?_)
  · refine WC_seq ?_
    refine WC_region ?_
    refine WL_val rfl rfl rfl (R_move rfl rfl) ?_
    refine WL_val rfl rfl rfl (R_fieldAddr rfl fa41_1 rfl) ?_
    refine WL_val rfl rfl rfl (R_load rfl sc3 rfl (mmZ) rfl) ?_
    refine WL_val rfl rfl rfl (R_fieldAddr rfl fa41_2 rfl) ?_
    refine WL_val rfl rfl rfl (R_load rfl sc28 rfl (mmZ) rfl) ?_
    refine WL_val rfl rfl rfl (R_fieldAddr rfl fa41_3 rfl) ?_
    refine WL_val rfl rfl rfl (R_load rfl sc28 rfl (mmZ) rfl) ?_
    refine WL_do rfl rfl rfl (D_call (pget_ok h hE2 hn2 a.n a.now a.dl hb) rfl rfl rfl rfl (pqZ)) ?_
    rintro _ _ ⟨_, ⟨m1, rfl, rfl, hp1, h1⟩, rfl⟩
    rw [← hp1]
    refine WL_val rfl rfl rfl (R_move rfl rfl) ?_
    refine WL_val rfl rfl rfl (R_extract rfl rfl rfl) ?_
    refine WL_val rfl rfl rfl (R_extract rfl rfl rfl) ?_
    refine WL_do rfl rfl rfl (D_alloc rfl zv44) ?_
    rintro _ _ ⟨b4, rfl, rfl⟩
    refine WL_do0 rfl rfl (D_store (vs := [_, _, _]) rfl Try.sizeOf44 rfl rfl rfl rfl rfl (plZ) (by exact Nat.le_of_ble_eq_true rfl)) ?_
    rintro _ _ rfl
    refine WL_val rfl rfl rfl (R_assign rfl rfl) ?_
    refine WL_nil ?_
    refine WQ_code ?_
    refine WC_seq ?_
    refine WC_region ?_
    refine WL_val rfl rfl rfl (R_loadA (vs := [_, _, _, _, _, _, _]) rfl ag58 rfl (mmZ) rfl (atZ)) ?_
    refine WL_val rfl rfl rfl (R_fieldAddr rfl fa41_1 rfl) ?_
    refine WL_val rfl rfl rfl (R_load rfl sc3 rfl (mmZ) rfl) ?_
    refine WL_val rfl rfl rfl (R_fieldAddr rfl fa41_2 rfl) ?_
    refine WL_val rfl rfl rfl (R_load rfl sc28 rfl (mmZ) rfl) ?_
    refine WL_val rfl rfl rfl (R_fieldAddr rfl fa41_3 rfl) ?_
    refine WL_val rfl rfl rfl (R_load rfl sc28 rfl (mmZ) rfl) ?_
    refine WL_do rfl rfl rfl (D_call (kget_ok hM hw hQ a.n a.now a.dl) rfl rfl rfl rfl (pqZ)) ?_
    rintro _ _ ⟨_, ⟨M2, rfl, rfl, g2⟩, rfl⟩
    refine WL_val rfl rfl rfl (R_move rfl rfl) ?_
    refine WL_val rfl rfl rfl (R_extract rfl rfl rfl) ?_
    refine WL_val rfl rfl rfl (R_extract rfl rfl rfl) ?_
    refine WL_val rfl rfl rfl (R_extract rfl rfl rfl) ?_
    refine WL_do rfl rfl rfl (D_alloc rfl zv58) ?_
    rintro _ _ ⟨b5, rfl, rfl⟩
    refine WL_do rfl rfl rfl (D_alloc rfl zv44) ?_
    rintro _ _ ⟨b6, rfl, rfl⟩
    refine WL_do0 rfl rfl (D_store (vs := [_, _, _, _, _, _, _]) rfl Try.sizeOf58 rfl rfl rfl rfl rfl (plZ) (by exact Nat.le_of_ble_eq_true rfl)) ?_
    rintro _ _ rfl
    refine WL_do0 rfl rfl (D_store (vs := [_, _, _]) rfl Try.sizeOf44 rfl rfl rfl rfl rfl (plZ) (by exact Nat.le_of_ble_eq_true rfl)) ?_
    rintro _ _ rfl
    refine WL_val rfl rfl rfl (R_assign rfl rfl) ?_
    refine WL_nil ?_
    refine WQ_code ?_
    refine WC_seq ?_
    refine WC_drawR [⟨some b3, _⟩] [(0, true), (1, true), (2, true), (3, true), (4, true), (5, true), (6, true), (7, true), (8, true), (9, true), (10, true), (11, false), (12, true)] followsMixed rfl rfl (by kernel_rfl) (pqZ) ?_
    refine WM_val rfl rfl rfl rfl (R_move rfl rfl) ?_
    refine WM_val rfl rfl rfl rfl (R_loadA (vs := [_, _, _, _, _, _, _]) rfl ag58 rfl (mmZ) rfl (atZ)) ?_
    refine WM_val rfl rfl rfl rfl (R_loadA (vs := [_, _, _]) rfl ag44 rfl (mmZ) rfl (atZ)) ?_
    refine WM_val rfl rfl rfl rfl (R_loadA (vs := [_, _, _]) rfl ag44 rfl (mmZ) rfl (atZ)) ?_
    refine WM_val rfl rfl rfl rfl (R_seq44 rfl rfl rfl rfl) ?_
    refine WM_val rfl rfl rfl rfl (R_move rfl rfl) ?_
    refine WM_set (s := 57) (v := .bool true) rfl (by simp) ?_
    refine WM_val rfl rfl rfl rfl (R_move rfl rfl) ?_
    refine WM_val rfl rfl rfl rfl (R_move rfl rfl) ?_
    refine WM_val rfl rfl rfl rfl (R_eql rfl rfl rfl) ?_
    refine WM_set (s := 60) (v := .bool true) rfl (by simp) ?_
    refine WM_val rfl rfl rfl rfl (R_pickT rfl rfl rfl) ?_
    refine WM_val rfl rfl rfl rfl (R_assign rfl rfl) ?_
    refine WM_do0 rfl rfl rfl (D_store (vs := [_, _, _, _, _, _, _]) rfl Try.sizeOf58 rfl rfl rfl rfl rfl (plZ) (by exact Nat.le_of_ble_eq_true rfl)) ?_
    rintro _ _ rfl
    refine ⟨⟨_, pqZ⟩, ?_⟩
    refine WM_val rfl rfl rfl rfl (R_assign rfl rfl) ?_
    refine WM_nil ?_
    refine WQ_code ?_
    refine WC_ret ?_
    refine WQ_ret rfl rfl (.cons (.tmp rfl) (.cons (.cell (vs := [_, _, _, _, _, _, _]) rfl ag58 (mmZ) rfl (atZ)) (.cons (.tmp rfl) .nil))) rfl (by
        exact ⟨m1, s.getS a.n a.now a.dl, M2, rfl, rfl, h1, g2, st_get hph _ _ _⟩) (pqZ)
  · refine WC_seq ?_
    refine WC_region ?_
    refine WL_val rfl rfl rfl (R_eql rfl rfl rfl) ?_
    refine WL_val rfl rfl rfl (R_assign rfl rfl) ?_
    refine WL_nil ?_
    refine WQ_code ?_
    refine WC_dec rfl (fun c2 => ?_) (fun c2 => ?_)
    · refine WC_seq ?_
      refine WC_region ?_
      refine WL_val rfl rfl rfl (R_loadA (vs := [_, _, _, _, _, _, _]) rfl ag58 rfl (mmZ) rfl (atZ)) ?_
      refine WL_val rfl rfl rfl (R_fieldAddr rfl fa41_1 rfl) ?_
      refine WL_val rfl rfl rfl (R_load rfl sc3 rfl (mmZ) rfl) ?_
      refine WL_val rfl rfl rfl (R_fieldAddr rfl fa41_4 rfl) ?_
      refine WL_val rfl rfl rfl (R_load rfl sc4 rfl (mmZ) rfl) ?_
      refine WL_val rfl rfl rfl (R_fieldAddr rfl fa41_2 rfl) ?_
      refine WL_val rfl rfl rfl (R_load rfl sc28 rfl (mmZ) rfl) ?_
      refine WL_do rfl rfl rfl (D_call (kdialed_ok hM hw hE3 a.n a.good a.now) rfl rfl rfl rfl (pqZ)) ?_
      rintro _ _ ⟨_, ⟨M2, rfl, rfl, g2⟩, rfl⟩
      refine WL_val rfl rfl rfl (R_move rfl rfl) ?_
      refine WL_val rfl rfl rfl (R_extract rfl rfl rfl) ?_
      refine WL_val rfl rfl rfl (R_extract rfl rfl rfl) ?_
      refine WL_do rfl rfl rfl (D_alloc rfl zv58) ?_
      rintro _ _ ⟨b7, rfl, rfl⟩
      refine WL_do0 rfl rfl (D_store (vs := [_, _, _, _, _, _, _]) rfl Try.sizeOf58 rfl rfl rfl rfl rfl (plZ) (by exact Nat.le_of_ble_eq_true rfl)) ?_
      rintro _ _ rfl
      refine WL_val rfl rfl rfl (R_assign rfl rfl) ?_
      refine WL_nil ?_
      refine WQ_code ?_
      refine WC_seq ?_
      refine WC_drawR (⟨some b3, _⟩ :: poH m s) [(0, true), (1, true), (2, true), (3, true), (4, true), (5, true), (6, true), (7, true), (8, true), (10, true), (9, false), (11, true), (12, true), (13, false), (14, true)] followsMixed rfl rfl (by kernel_rfl) (pqZ) ?_
      refine WM_val rfl rfl rfl rfl (R_move rfl rfl) ?_
      refine WM_val rfl rfl rfl rfl (R_loadA (vs := [_, _, _, _, _, _, _]) rfl ag58 rfl (mmZ) rfl (atZ)) ?_
      refine WM_val rfl rfl rfl rfl (R_move rfl rfl) ?_
      refine WM_val rfl rfl rfl rfl (R_fieldAddr rfl fa41_1 rfl) ?_
      refine WM_val rfl rfl rfl rfl (R_load rfl sc3 rfl (mmZ) rfl) ?_
      refine WM_val rfl rfl rfl rfl (R_fieldAddr rfl fa41_4 rfl) ?_
      refine WM_val rfl rfl rfl rfl (R_load rfl sc4 rfl (mmZ) rfl) ?_
      refine WM_val rfl rfl rfl rfl (R_fieldAddr rfl fa41_2 rfl) ?_
      refine WM_val rfl rfl rfl rfl (R_load rfl sc28 rfl (mmZ) rfl) ?_
      refine WM_val rfl rfl rfl rfl (R_move rfl rfl) ?_
      refine WM_do rfl rfl rfl rfl (D_call (pdialed_ok h hE2 a.n a.good a.now hb) rfl rfl rfl rfl (pqZ)) ?_
      rintro _ _ ⟨_, ⟨m1, rfl, rfl, hp1, h1⟩, rfl⟩
      refine ⟨⟨_, pqZ⟩, ?_⟩
      rw [← hp1]
      refine WM_val rfl rfl rfl rfl (R_eql rfl rfl rfl) ?_
      refine WM_set (s := 86) (v := .bool true) rfl (by simp) ?_
      refine WM_val rfl rfl rfl rfl (R_assign rfl rfl) ?_
      refine WM_do0 rfl rfl rfl (D_store (vs := [_, _, _, _, _, _, _]) rfl Try.sizeOf58 rfl rfl rfl rfl rfl (plZ) (by exact Nat.le_of_ble_eq_true rfl)) ?_
      rintro _ _ rfl
      refine ⟨⟨_, pqZ⟩, ?_⟩
      refine WM_val rfl rfl rfl rfl (R_assign rfl rfl) ?_
      refine WM_nil ?_
      refine WQ_code ?_
      refine WC_ret ?_
      refine WQ_ret rfl rfl (.cons (.tmp rfl) (.cons (.cell (vs := [_, _, _, _, _, _, _]) rfl ag58 (mmZ) rfl (atZ)) (.cons (.tmp rfl) .nil))) rfl (by
          exact ⟨m1, s.dialed a.n a.good a.now, M2, rfl, rfl, h1, g2, st_dialed hph _ _ _⟩) (pqZ)
    · refine WC_seq ?_
      refine WC_region ?_
      refine WL_val rfl rfl rfl (R_eql rfl rfl rfl) ?_
      refine WL_val rfl rfl rfl (R_assign rfl rfl) ?_
      refine WL_nil ?_
      refine WQ_code ?_
      refine WC_dec rfl (fun c3 => ?_) (fun c3 => ?_)
      · refine WC_seq ?_
        refine WC_region ?_
        refine WL_val rfl rfl rfl (R_loadA (vs := [_, _, _, _, _, _, _]) rfl ag58 rfl (mmZ) rfl (atZ)) ?_
        refine WL_val rfl rfl rfl (R_fieldAddr rfl fa41_1 rfl) ?_
        refine WL_val rfl rfl rfl (R_load rfl sc3 rfl (mmZ) rfl) ?_
        refine WL_val rfl rfl rfl (R_fieldAddr rfl fa41_4 rfl) ?_
        refine WL_val rfl rfl rfl (R_load rfl sc4 rfl (mmZ) rfl) ?_
        refine WL_val rfl rfl rfl (R_fieldAddr rfl fa41_2 rfl) ?_
        refine WL_val rfl rfl rfl (R_load rfl sc28 rfl (mmZ) rfl) ?_
        refine WL_do rfl rfl rfl (D_call (kput_ok hM hw hE3 a.n a.good a.now) rfl rfl rfl rfl (pqZ)) ?_
        rintro _ _ ⟨_, ⟨M2, rfl, rfl, g2⟩, rfl⟩
        refine WL_val rfl rfl rfl (R_move rfl rfl) ?_
        refine WL_val rfl rfl rfl (R_extract rfl rfl rfl) ?_
        refine WL_val rfl rfl rfl (R_extract rfl rfl rfl) ?_
        refine WL_do rfl rfl rfl (D_alloc rfl zv58) ?_
        rintro _ _ ⟨b8, rfl, rfl⟩
        refine WL_do0 rfl rfl (D_store (vs := [_, _, _, _, _, _, _]) rfl Try.sizeOf58 rfl rfl rfl rfl rfl (plZ) (by exact Nat.le_of_ble_eq_true rfl)) ?_
        rintro _ _ rfl
        refine WL_val rfl rfl rfl (R_assign rfl rfl) ?_
        refine WL_nil ?_
        refine WQ_code ?_
        refine WC_seq ?_
        refine WC_drawR (⟨some b3, _⟩ :: poH m s) [(0, true), (1, true), (2, true), (3, true), (4, true), (5, true), (6, true), (7, true), (8, true), (10, true), (9, false), (11, true), (12, true), (13, false), (14, true)] followsMixed rfl rfl (by kernel_rfl) (pqZ) ?_
        refine WM_val rfl rfl rfl rfl (R_move rfl rfl) ?_
        refine WM_val rfl rfl rfl rfl (R_loadA (vs := [_, _, _, _, _, _, _]) rfl ag58 rfl (mmZ) rfl (atZ)) ?_
        refine WM_val rfl rfl rfl rfl (R_move rfl rfl) ?_
        refine WM_val rfl rfl rfl rfl (R_fieldAddr rfl fa41_1 rfl) ?_
        refine WM_val rfl rfl rfl rfl (R_load rfl sc3 rfl (mmZ) rfl) ?_
        refine WM_val rfl rfl rfl rfl (R_fieldAddr rfl fa41_4 rfl) ?_
        refine WM_val rfl rfl rfl rfl (R_load rfl sc4 rfl (mmZ) rfl) ?_
        refine WM_val rfl rfl rfl rfl (R_fieldAddr rfl fa41_2 rfl) ?_
        refine WM_val rfl rfl rfl rfl (R_load rfl sc28 rfl (mmZ) rfl) ?_
        refine WM_val rfl rfl rfl rfl (R_move rfl rfl) ?_
        refine WM_do rfl rfl rfl rfl (D_call (pput_ok h hE2 a.n a.good a.now hb) rfl rfl rfl rfl (pqZ)) ?_
        rintro _ _ ⟨_, ⟨m1, rfl, rfl, hp1, h1⟩, rfl⟩
        refine ⟨⟨_, pqZ⟩, ?_⟩
        rw [← hp1]
        refine WM_val rfl rfl rfl rfl (R_eql rfl rfl rfl) ?_
        refine WM_set (s := 111) (v := .bool true) rfl (by simp) ?_
        refine WM_val rfl rfl rfl rfl (R_assign rfl rfl) ?_
        refine WM_do0 rfl rfl rfl (D_store (vs := [_, _, _, _, _, _, _]) rfl Try.sizeOf58 rfl rfl rfl rfl rfl (plZ) (by exact Nat.le_of_ble_eq_true rfl)) ?_
        rintro _ _ rfl
        refine ⟨⟨_, pqZ⟩, ?_⟩
        refine WM_val rfl rfl rfl rfl (R_assign rfl rfl) ?_
        refine WM_nil ?_
        refine WQ_code ?_
        refine WC_ret ?_
        refine WQ_ret rfl rfl (.cons (.tmp rfl) (.cons (.cell (vs := [_, _, _, _, _, _, _]) rfl ag58 (mmZ) rfl (atZ)) (.cons (.tmp rfl) .nil))) rfl (by
            exact ⟨m1, s.put a.n a.good a.now, M2, rfl, rfl, h1, g2, st_put hph _ _ _⟩) (pqZ)
      · refine WC_seq ?_
        refine WC_region ?_
        refine WL_val rfl rfl rfl (R_eql rfl rfl rfl) ?_
        refine WL_val rfl rfl rfl (R_assign rfl rfl) ?_
        refine WL_nil ?_
        refine WQ_code ?_
        refine WC_dec rfl (fun c4 => ?_) (fun c4 => ?_)
        · refine WC_seq ?_
          refine WC_region ?_
          refine WL_val rfl rfl rfl (R_loadA (vs := [_, _, _, _, _, _, _]) rfl ag58 rfl (mmZ) rfl (atZ)) ?_
          refine WL_val rfl rfl rfl (R_fieldAddr rfl fa41_1 rfl) ?_
          refine WL_val rfl rfl rfl (R_load rfl sc3 rfl (mmZ) rfl) ?_
          refine WL_val rfl rfl rfl (R_geq rfl rfl rfl) ?_
          refine WL_val rfl rfl rfl (R_move rfl rfl) ?_
          refine WL_splitD (s := 118) rfl (fun c5 => ?_) (fun c5 => ?_)
          · have hg := c5
            refine WL_val rfl rfl rfl (R_fieldAddr rfl fa41_1 rfl) ?_
            refine WL_val rfl rfl rfl (R_load rfl sc3 rfl (mmZ) rfl) ?_
            refine WL_val rfl rfl rfl (R_leq rfl rfl rfl) ?_
            refine WL_val rfl rfl rfl (R_pickT rfl rfl rfl) ?_
            refine WL_set (s := 122) (v := .bool (decide (0 ≤ a.n ∧ a.n ≤ 1000))) rfl (by first | exact congrArg Value.bool (decide_eq_decide.2 (by omega)) | exact congrArg Value.bool (decide_eq_false (by omega)).symm) ?_
            refine WL_val rfl rfl rfl (R_fieldAddr rfl fa41_2 rfl) ?_
            refine WL_val rfl rfl rfl (R_load rfl sc28 rfl (mmZ) rfl) ?_
            refine WL_do rfl rfl rfl (D_call (mwrong_ok hM (decide (0 ≤ a.n ∧ a.n ≤ 1000)) a.now) rfl rfl rfl rfl (pqZ)) ?_
            rintro _ _ ⟨_, ⟨rfl, rfl⟩, rfl⟩
            refine WL_val rfl rfl rfl (R_assign rfl rfl) ?_
            refine WL_nil ?_
            refine WQ_code ?_
            refine WC_seq ?_
            refine WC_seq ?_
            refine WC_region ?_
            refine WL_val rfl rfl rfl (R_move rfl rfl) ?_
            refine WL_val rfl rfl rfl (R_eql rfl rfl rfl) ?_
            refine WL_val rfl rfl rfl (R_move rfl rfl) ?_
            refine WL_splitD (s := 128) rfl (fun c6 => ?_) (fun c6 => ?_)
            · have hm0 : s.may (decide (0 ≤ a.n ∧ a.n ≤ 1000)) a.now = 0 := c6
              refine WL_val rfl rfl rfl (R_loadA (vs := [_, _, _, _, _, _, _]) rfl ag58 rfl (mmZ) rfl (atZ)) ?_
              refine WL_val rfl rfl rfl (R_fieldAddr rfl fa41_1 rfl) ?_
              refine WL_val rfl rfl rfl (R_load rfl sc3 rfl (mmZ) rfl) ?_
              refine WL_do rfl rfl rfl (D_call (mwaits_ok hM a.n) rfl rfl rfl rfl (pqZ)) ?_
              rintro _ _ ⟨_, ⟨rfl, rfl⟩, rfl⟩
              refine WL_val rfl rfl rfl (R_not rfl rfl) ?_
              refine WL_val rfl rfl rfl (R_pickT rfl rfl rfl) ?_
              refine WL_nil ?_
              refine WQ_code ?_
              refine WC_if rfl (fun c7 => ?_) (fun c7 => ?_)
              · have hw0 : s.waits a.n = false := by have h9 := c7; rw [ro_waits] at h9; simpa using h9
                have hce : s.canE a.n a.now = 9 := by unfold PS.canE; rw [if_neg (fun e => e hm0), if_neg (by rw [hw0]; decide)]
                have hcn : s.cancel a.n a.now = s := by unfold PS.cancel; rw [if_pos (by rw [hce]; decide)]
                refine WC_region ?_
                refine WL_val rfl rfl rfl (R_assign rfl rfl) ?_
                refine WL_nil ?_
                refine WQ_code ?_
                refine WC_seq ?_
                refine WC_seq ?_
                refine WC_region ?_
                refine WL_val rfl rfl rfl (R_move rfl rfl) ?_
                refine WL_val rfl rfl rfl (R_eql rfl rfl rfl) ?_
                refine WL_nil ?_
                refine WQ_code ?_
                refine WC_dF rfl (by decide) ?_
                refine WC_skip ?_
                refine WQ_code ?_
                refine WC_seq ?_
                refine WC_drawR (⟨some b3, _⟩ :: poH m s) [(0, true), (1, true), (2, true), (3, true), (4, true), (5, true), (6, true), (8, true), (7, false), (9, true), (10, true), (11, false), (12, true)] followsMixed rfl rfl (by kernel_rfl) (pqZ) ?_
                refine WM_val rfl rfl rfl rfl (R_move rfl rfl) ?_
                refine WM_val rfl rfl rfl rfl (R_loadA (vs := [_, _, _, _, _, _, _]) rfl ag58 rfl (mmZ) rfl (atZ)) ?_
                refine WM_val rfl rfl rfl rfl (R_move rfl rfl) ?_
                refine WM_val rfl rfl rfl rfl (R_fieldAddr rfl fa41_1 rfl) ?_
                refine WM_val rfl rfl rfl rfl (R_load rfl sc3 rfl (mmZ) rfl) ?_
                refine WM_val rfl rfl rfl rfl (R_fieldAddr rfl fa41_2 rfl) ?_
                refine WM_val rfl rfl rfl rfl (R_load rfl sc28 rfl (mmZ) rfl) ?_
                refine WM_val rfl rfl rfl rfl (R_move rfl rfl) ?_
                refine WM_do rfl rfl rfl rfl (D_call (pcancel_ok h hE2 a.n a.now hb) rfl rfl rfl rfl (pqZ)) ?_
                rintro _ _ ⟨_, ⟨m1, rfl, rfl, hp1, h1⟩, rfl⟩
                refine ⟨⟨_, pqZ⟩, ?_⟩
                rw [← hp1]
                refine WM_val rfl rfl rfl rfl (R_eql rfl rfl rfl) ?_
                refine WM_set (s := 153) (v := .bool true) rfl (by exact congrArg Value.bool (decide_eq_true hce)) ?_
                refine WM_val rfl rfl rfl rfl (R_assign rfl rfl) ?_
                refine WM_do0 rfl rfl rfl (D_store (vs := [_, _, _, _, _, _, _]) rfl Try.sizeOf58 rfl rfl rfl rfl rfl (plZ) (by exact Nat.le_of_ble_eq_true rfl)) ?_
                rintro _ _ rfl
                refine ⟨⟨_, pqZ⟩, ?_⟩
                refine WM_val rfl rfl rfl rfl (R_assign rfl rfl) ?_
                refine WM_nil ?_
                refine WQ_code ?_
                refine WC_ret ?_
                refine WQ_ret rfl rfl (.cons (.tmp rfl) (.cons (.cell (vs := [_, _, _, _, _, _, _]) rfl ag58 (mmZ) rfl (atZ)) (.cons (.tmp rfl) .nil))) rfl (by
                    exact sp_mk m1 (s.cancel a.n a.now) M (congrArg rsOf hcn) rfl rfl h1 hM (st_cancel hph _ _)) (pqZ)
              · have hw0 : s.waits a.n = true := by have h9 := c7; rw [ro_waits] at h9; simpa using h9
                have hce0 : s.canE a.n a.now = 0 := by unfold PS.canE; rw [if_neg (fun e => e hm0), if_pos hw0]
                have hce : s.canE a.n a.now = (rsOf s).may (decide (0 ≤ a.n ∧ a.n ≤ 1000)) a.now := hce0.trans hm0.symm
                have hcn : (rsOf s).cancel a.n a.now = ((rsOf s).leave a.n).at_ a.now := by unfold RS.cancel; rw [if_neg (by rw [ro_cancelE, hce0]; decide)]
                refine WC_skip ?_
                refine WQ_code ?_
                refine WC_seq ?_
                refine WC_seq ?_
                refine WC_region ?_
                refine WL_val rfl rfl rfl (R_move rfl rfl) ?_
                refine WL_val rfl rfl rfl (R_eql rfl rfl rfl) ?_
                refine WL_nil ?_
                refine WQ_code ?_
                refine WC_dT rfl (by exact hm0) ?_
                refine WC_seq ?_
                refine WC_region ?_
                refine WL_val rfl rfl rfl (R_loadA (vs := [_, _, _, _, _, _, _]) rfl ag58 rfl (mmZ) rfl (atZ)) ?_
                refine WL_val rfl rfl rfl (R_fieldAddr rfl fa41_1 rfl) ?_
                refine WL_val rfl rfl rfl (R_load rfl sc3 rfl (mmZ) rfl) ?_
                refine WL_do rfl rfl rfl (D_call (mleave_ok hM a.n) rfl rfl rfl rfl (pqZ)) ?_
                rintro _ _ ⟨_, ⟨qb3, qc3, qt3, rfl, rfl, g3⟩, rfl⟩
                refine WL_do0 rfl rfl (D_store (vs := [_, _, _, _, _, _, _]) rfl Try.sizeOf58 rfl rfl rfl rfl rfl (plZ) (by exact Nat.le_of_ble_eq_true rfl)) ?_
                rintro _ _ rfl
                refine WL_nil ?_
                refine WQ_code ?_
                refine WC_region ?_
                refine WL_val rfl rfl rfl (R_fieldAddr rfl fa41_2 rfl) ?_
                refine WL_val rfl rfl rfl (R_load rfl sc28 rfl (mmZ) rfl) ?_
                refine WL_val rfl rfl rfl (R_fieldAddr rfl fa58_3 rfl) ?_
                refine WL_do0 rfl rfl (D_store (vs := [_]) rfl Try.sizeOf28 rfl rfl rfl rfl rfl (plZ) (by exact Nat.le_of_ble_eq_true rfl)) ?_
                rintro _ _ rfl
                refine WL_nil ?_
                refine WQ_code ?_
                refine WC_seq ?_
                refine WC_drawR (⟨some b3, _⟩ :: poH m s) [(0, true), (1, true), (2, true), (3, true), (4, true), (5, true), (6, true), (8, true), (7, false), (9, true), (10, true), (11, false), (12, true)] followsMixed rfl rfl (by kernel_rfl) (pqZ) ?_
                refine WM_val rfl rfl rfl rfl (R_move rfl rfl) ?_
                refine WM_val rfl rfl rfl rfl (R_loadA (vs := [_, _, _, _, _, _, _]) rfl ag58 rfl (mmZ) rfl (atZ)) ?_
                refine WM_val rfl rfl rfl rfl (R_move rfl rfl) ?_
                refine WM_val rfl rfl rfl rfl (R_fieldAddr rfl fa41_1 rfl) ?_
                refine WM_val rfl rfl rfl rfl (R_load rfl sc3 rfl (mmZ) rfl) ?_
                refine WM_val rfl rfl rfl rfl (R_fieldAddr rfl fa41_2 rfl) ?_
                refine WM_val rfl rfl rfl rfl (R_load rfl sc28 rfl (mmZ) rfl) ?_
                refine WM_val rfl rfl rfl rfl (R_move rfl rfl) ?_
                refine WM_do rfl rfl rfl rfl (D_call (pcancel_ok h hE2 a.n a.now hb) rfl rfl rfl rfl (pqZ)) ?_
                rintro _ _ ⟨_, ⟨m1, rfl, rfl, hp1, h1⟩, rfl⟩
                refine ⟨⟨_, pqZ⟩, ?_⟩
                rw [← hp1]
                refine WM_val rfl rfl rfl rfl (R_eql rfl rfl rfl) ?_
                refine WM_set (s := 153) (v := .bool true) rfl (by exact congrArg Value.bool (decide_eq_true hce)) ?_
                refine WM_val rfl rfl rfl rfl (R_assign rfl rfl) ?_
                refine WM_do0 rfl rfl rfl (D_store (vs := [_, _, _, _, _, _, _]) rfl Try.sizeOf58 rfl rfl rfl rfl rfl (plZ) (by exact Nat.le_of_ble_eq_true rfl)) ?_
                rintro _ _ rfl
                refine ⟨⟨_, pqZ⟩, ?_⟩
                refine WM_val rfl rfl rfl rfl (R_assign rfl rfl) ?_
                refine WM_nil ?_
                refine WQ_code ?_
                refine WC_ret ?_
                refine WQ_ret rfl rfl (.cons (.tmp rfl) (.cons (.cell (vs := [_, _, _, _, _, _, _]) rfl ag58 (mmZ) rfl (atZ)) (.cons (.tmp rfl) .nil))) rfl (by
                    exact sp_mk m1 (s.cancel a.n a.now) { M with qb := qb3, qc := qc3, qtl := qt3 } ((ro_cancel a.n a.now).symm.trans hcn) rfl rfl h1 (g3.at_ a.now) (st_cancel hph _ _)) (pqZ)
            · have hm0 : ¬ s.may (decide (0 ≤ a.n ∧ a.n ≤ 1000)) a.now = 0 := c6
              have hce : s.canE a.n a.now = (rsOf s).may (decide (0 ≤ a.n ∧ a.n ≤ 1000)) a.now := by unfold PS.canE; rw [if_pos hm0]; rfl
              have hcn : s.cancel a.n a.now = s := by unfold PS.cancel; rw [if_pos (by rw [hce]; exact hm0)]
              refine WL_skip rfl rfl rfl ?_
              refine WL_skip rfl rfl rfl ?_
              refine WL_skip rfl rfl rfl ?_
              refine WL_skip rfl rfl rfl ?_
              refine WL_skip rfl rfl rfl ?_
              refine WL_val rfl rfl rfl (R_pickF rfl rfl rfl) ?_
              refine WL_nil ?_
              refine WQ_code ?_
              refine WC_F rfl ?_
              refine WC_skip ?_
              refine WQ_code ?_
              refine WC_seq ?_
              refine WC_seq ?_
              refine WC_region ?_
              refine WL_val rfl rfl rfl (R_move rfl rfl) ?_
              refine WL_val rfl rfl rfl (R_eql rfl rfl rfl) ?_
              refine WL_nil ?_
              refine WQ_code ?_
              refine WC_dF rfl (by exact hm0) ?_
              refine WC_skip ?_
              refine WQ_code ?_
              refine WC_seq ?_
              refine WC_drawR (⟨some b3, _⟩ :: poH m s) [(0, true), (1, true), (2, true), (3, true), (4, true), (5, true), (6, true), (8, true), (7, false), (9, true), (10, true), (11, false), (12, true)] followsMixed rfl rfl (by kernel_rfl) (pqZ) ?_
              refine WM_val rfl rfl rfl rfl (R_move rfl rfl) ?_
              refine WM_val rfl rfl rfl rfl (R_loadA (vs := [_, _, _, _, _, _, _]) rfl ag58 rfl (mmZ) rfl (atZ)) ?_
              refine WM_val rfl rfl rfl rfl (R_move rfl rfl) ?_
              refine WM_val rfl rfl rfl rfl (R_fieldAddr rfl fa41_1 rfl) ?_
              refine WM_val rfl rfl rfl rfl (R_load rfl sc3 rfl (mmZ) rfl) ?_
              refine WM_val rfl rfl rfl rfl (R_fieldAddr rfl fa41_2 rfl) ?_
              refine WM_val rfl rfl rfl rfl (R_load rfl sc28 rfl (mmZ) rfl) ?_
              refine WM_val rfl rfl rfl rfl (R_move rfl rfl) ?_
              refine WM_do rfl rfl rfl rfl (D_call (pcancel_ok h hE2 a.n a.now hb) rfl rfl rfl rfl (pqZ)) ?_
              rintro _ _ ⟨_, ⟨m1, rfl, rfl, hp1, h1⟩, rfl⟩
              refine ⟨⟨_, pqZ⟩, ?_⟩
              rw [← hp1]
              refine WM_val rfl rfl rfl rfl (R_eql rfl rfl rfl) ?_
              refine WM_set (s := 153) (v := .bool true) rfl (by exact congrArg Value.bool (decide_eq_true hce)) ?_
              refine WM_val rfl rfl rfl rfl (R_assign rfl rfl) ?_
              refine WM_do0 rfl rfl rfl (D_store (vs := [_, _, _, _, _, _, _]) rfl Try.sizeOf58 rfl rfl rfl rfl rfl (plZ) (by exact Nat.le_of_ble_eq_true rfl)) ?_
              rintro _ _ rfl
              refine ⟨⟨_, pqZ⟩, ?_⟩
              refine WM_val rfl rfl rfl rfl (R_assign rfl rfl) ?_
              refine WM_nil ?_
              refine WQ_code ?_
              refine WC_ret ?_
              refine WQ_ret rfl rfl (.cons (.tmp rfl) (.cons (.cell (vs := [_, _, _, _, _, _, _]) rfl ag58 (mmZ) rfl (atZ)) (.cons (.tmp rfl) .nil))) rfl (by
                  exact sp_mk m1 (s.cancel a.n a.now) M (congrArg rsOf hcn) rfl rfl h1 hM (st_cancel hph _ _)) (pqZ)
          · have hg := c5
            refine WL_skip rfl rfl rfl ?_
            refine WL_skip rfl rfl rfl ?_
            refine WL_skip rfl rfl rfl ?_
            refine WL_val rfl rfl rfl (R_pickF rfl rfl rfl) ?_
            refine WL_set (s := 122) (v := .bool (decide (0 ≤ a.n ∧ a.n ≤ 1000))) rfl (by first | exact congrArg Value.bool (decide_eq_decide.2 (by omega)) | exact congrArg Value.bool (decide_eq_false (by omega)).symm) ?_
            refine WL_val rfl rfl rfl (R_fieldAddr rfl fa41_2 rfl) ?_
            refine WL_val rfl rfl rfl (R_load rfl sc28 rfl (mmZ) rfl) ?_
            refine WL_do rfl rfl rfl (D_call (mwrong_ok hM (decide (0 ≤ a.n ∧ a.n ≤ 1000)) a.now) rfl rfl rfl rfl (pqZ)) ?_
            rintro _ _ ⟨_, ⟨rfl, rfl⟩, rfl⟩
            refine WL_val rfl rfl rfl (R_assign rfl rfl) ?_
            refine WL_nil ?_
            refine WQ_code ?_
            refine WC_seq ?_
            refine WC_seq ?_
            refine WC_region ?_
            refine WL_val rfl rfl rfl (R_move rfl rfl) ?_
            refine WL_val rfl rfl rfl (R_eql rfl rfl rfl) ?_
            refine WL_val rfl rfl rfl (R_move rfl rfl) ?_
            refine WL_splitD (s := 128) rfl (fun c8 => ?_) (fun c8 => ?_)
            · have hm0 : s.may (decide (0 ≤ a.n ∧ a.n ≤ 1000)) a.now = 0 := c8
              refine WL_val rfl rfl rfl (R_loadA (vs := [_, _, _, _, _, _, _]) rfl ag58 rfl (mmZ) rfl (atZ)) ?_
              refine WL_val rfl rfl rfl (R_fieldAddr rfl fa41_1 rfl) ?_
              refine WL_val rfl rfl rfl (R_load rfl sc3 rfl (mmZ) rfl) ?_
              refine WL_do rfl rfl rfl (D_call (mwaits_ok hM a.n) rfl rfl rfl rfl (pqZ)) ?_
              rintro _ _ ⟨_, ⟨rfl, rfl⟩, rfl⟩
              refine WL_val rfl rfl rfl (R_not rfl rfl) ?_
              refine WL_val rfl rfl rfl (R_pickT rfl rfl rfl) ?_
              refine WL_nil ?_
              refine WQ_code ?_
              refine WC_if rfl (fun c9 => ?_) (fun c9 => ?_)
              · have hw0 : s.waits a.n = false := by have h9 := c9; rw [ro_waits] at h9; simpa using h9
                have hce : s.canE a.n a.now = 9 := by unfold PS.canE; rw [if_neg (fun e => e hm0), if_neg (by rw [hw0]; decide)]
                have hcn : s.cancel a.n a.now = s := by unfold PS.cancel; rw [if_pos (by rw [hce]; decide)]
                refine WC_region ?_
                refine WL_val rfl rfl rfl (R_assign rfl rfl) ?_
                refine WL_nil ?_
                refine WQ_code ?_
                refine WC_seq ?_
                refine WC_seq ?_
                refine WC_region ?_
                refine WL_val rfl rfl rfl (R_move rfl rfl) ?_
                refine WL_val rfl rfl rfl (R_eql rfl rfl rfl) ?_
                refine WL_nil ?_
                refine WQ_code ?_
                refine WC_dF rfl (by decide) ?_
                refine WC_skip ?_
                refine WQ_code ?_
                refine WC_seq ?_
                refine WC_drawR (⟨some b3, _⟩ :: poH m s) [(0, true), (1, true), (2, true), (3, true), (4, true), (5, true), (6, true), (8, true), (7, false), (9, true), (10, true), (11, false), (12, true)] followsMixed rfl rfl (by kernel_rfl) (pqZ) ?_
                refine WM_val rfl rfl rfl rfl (R_move rfl rfl) ?_
                refine WM_val rfl rfl rfl rfl (R_loadA (vs := [_, _, _, _, _, _, _]) rfl ag58 rfl (mmZ) rfl (atZ)) ?_
                refine WM_val rfl rfl rfl rfl (R_move rfl rfl) ?_
                refine WM_val rfl rfl rfl rfl (R_fieldAddr rfl fa41_1 rfl) ?_
                refine WM_val rfl rfl rfl rfl (R_load rfl sc3 rfl (mmZ) rfl) ?_
                refine WM_val rfl rfl rfl rfl (R_fieldAddr rfl fa41_2 rfl) ?_
                refine WM_val rfl rfl rfl rfl (R_load rfl sc28 rfl (mmZ) rfl) ?_
                refine WM_val rfl rfl rfl rfl (R_move rfl rfl) ?_
                refine WM_do rfl rfl rfl rfl (D_call (pcancel_ok h hE2 a.n a.now hb) rfl rfl rfl rfl (pqZ)) ?_
                rintro _ _ ⟨_, ⟨m1, rfl, rfl, hp1, h1⟩, rfl⟩
                refine ⟨⟨_, pqZ⟩, ?_⟩
                rw [← hp1]
                refine WM_val rfl rfl rfl rfl (R_eql rfl rfl rfl) ?_
                refine WM_set (s := 153) (v := .bool true) rfl (by exact congrArg Value.bool (decide_eq_true hce)) ?_
                refine WM_val rfl rfl rfl rfl (R_assign rfl rfl) ?_
                refine WM_do0 rfl rfl rfl (D_store (vs := [_, _, _, _, _, _, _]) rfl Try.sizeOf58 rfl rfl rfl rfl rfl (plZ) (by exact Nat.le_of_ble_eq_true rfl)) ?_
                rintro _ _ rfl
                refine ⟨⟨_, pqZ⟩, ?_⟩
                refine WM_val rfl rfl rfl rfl (R_assign rfl rfl) ?_
                refine WM_nil ?_
                refine WQ_code ?_
                refine WC_ret ?_
                refine WQ_ret rfl rfl (.cons (.tmp rfl) (.cons (.cell (vs := [_, _, _, _, _, _, _]) rfl ag58 (mmZ) rfl (atZ)) (.cons (.tmp rfl) .nil))) rfl (by
                    exact sp_mk m1 (s.cancel a.n a.now) M (congrArg rsOf hcn) rfl rfl h1 hM (st_cancel hph _ _)) (pqZ)
              · have hw0 : s.waits a.n = true := by have h9 := c9; rw [ro_waits] at h9; simpa using h9
                have hce0 : s.canE a.n a.now = 0 := by unfold PS.canE; rw [if_neg (fun e => e hm0), if_pos hw0]
                have hce : s.canE a.n a.now = (rsOf s).may (decide (0 ≤ a.n ∧ a.n ≤ 1000)) a.now := hce0.trans hm0.symm
                have hcn : (rsOf s).cancel a.n a.now = ((rsOf s).leave a.n).at_ a.now := by unfold RS.cancel; rw [if_neg (by rw [ro_cancelE, hce0]; decide)]
                refine WC_skip ?_
                refine WQ_code ?_
                refine WC_seq ?_
                refine WC_seq ?_
                refine WC_region ?_
                refine WL_val rfl rfl rfl (R_move rfl rfl) ?_
                refine WL_val rfl rfl rfl (R_eql rfl rfl rfl) ?_
                refine WL_nil ?_
                refine WQ_code ?_
                refine WC_dT rfl (by exact hm0) ?_
                refine WC_seq ?_
                refine WC_region ?_
                refine WL_val rfl rfl rfl (R_loadA (vs := [_, _, _, _, _, _, _]) rfl ag58 rfl (mmZ) rfl (atZ)) ?_
                refine WL_val rfl rfl rfl (R_fieldAddr rfl fa41_1 rfl) ?_
                refine WL_val rfl rfl rfl (R_load rfl sc3 rfl (mmZ) rfl) ?_
                refine WL_do rfl rfl rfl (D_call (mleave_ok hM a.n) rfl rfl rfl rfl (pqZ)) ?_
                rintro _ _ ⟨_, ⟨qb3, qc3, qt3, rfl, rfl, g3⟩, rfl⟩
                refine WL_do0 rfl rfl (D_store (vs := [_, _, _, _, _, _, _]) rfl Try.sizeOf58 rfl rfl rfl rfl rfl (plZ) (by exact Nat.le_of_ble_eq_true rfl)) ?_
                rintro _ _ rfl
                refine WL_nil ?_
                refine WQ_code ?_
                refine WC_region ?_
                refine WL_val rfl rfl rfl (R_fieldAddr rfl fa41_2 rfl) ?_
                refine WL_val rfl rfl rfl (R_load rfl sc28 rfl (mmZ) rfl) ?_
                refine WL_val rfl rfl rfl (R_fieldAddr rfl fa58_3 rfl) ?_
                refine WL_do0 rfl rfl (D_store (vs := [_]) rfl Try.sizeOf28 rfl rfl rfl rfl rfl (plZ) (by exact Nat.le_of_ble_eq_true rfl)) ?_
                rintro _ _ rfl
                refine WL_nil ?_
                refine WQ_code ?_
                refine WC_seq ?_
                refine WC_drawR (⟨some b3, _⟩ :: poH m s) [(0, true), (1, true), (2, true), (3, true), (4, true), (5, true), (6, true), (8, true), (7, false), (9, true), (10, true), (11, false), (12, true)] followsMixed rfl rfl (by kernel_rfl) (pqZ) ?_
                refine WM_val rfl rfl rfl rfl (R_move rfl rfl) ?_
                refine WM_val rfl rfl rfl rfl (R_loadA (vs := [_, _, _, _, _, _, _]) rfl ag58 rfl (mmZ) rfl (atZ)) ?_
                refine WM_val rfl rfl rfl rfl (R_move rfl rfl) ?_
                refine WM_val rfl rfl rfl rfl (R_fieldAddr rfl fa41_1 rfl) ?_
                refine WM_val rfl rfl rfl rfl (R_load rfl sc3 rfl (mmZ) rfl) ?_
                refine WM_val rfl rfl rfl rfl (R_fieldAddr rfl fa41_2 rfl) ?_
                refine WM_val rfl rfl rfl rfl (R_load rfl sc28 rfl (mmZ) rfl) ?_
                refine WM_val rfl rfl rfl rfl (R_move rfl rfl) ?_
                refine WM_do rfl rfl rfl rfl (D_call (pcancel_ok h hE2 a.n a.now hb) rfl rfl rfl rfl (pqZ)) ?_
                rintro _ _ ⟨_, ⟨m1, rfl, rfl, hp1, h1⟩, rfl⟩
                refine ⟨⟨_, pqZ⟩, ?_⟩
                rw [← hp1]
                refine WM_val rfl rfl rfl rfl (R_eql rfl rfl rfl) ?_
                refine WM_set (s := 153) (v := .bool true) rfl (by exact congrArg Value.bool (decide_eq_true hce)) ?_
                refine WM_val rfl rfl rfl rfl (R_assign rfl rfl) ?_
                refine WM_do0 rfl rfl rfl (D_store (vs := [_, _, _, _, _, _, _]) rfl Try.sizeOf58 rfl rfl rfl rfl rfl (plZ) (by exact Nat.le_of_ble_eq_true rfl)) ?_
                rintro _ _ rfl
                refine ⟨⟨_, pqZ⟩, ?_⟩
                refine WM_val rfl rfl rfl rfl (R_assign rfl rfl) ?_
                refine WM_nil ?_
                refine WQ_code ?_
                refine WC_ret ?_
                refine WQ_ret rfl rfl (.cons (.tmp rfl) (.cons (.cell (vs := [_, _, _, _, _, _, _]) rfl ag58 (mmZ) rfl (atZ)) (.cons (.tmp rfl) .nil))) rfl (by
                    exact sp_mk m1 (s.cancel a.n a.now) { M with qb := qb3, qc := qc3, qtl := qt3 } ((ro_cancel a.n a.now).symm.trans hcn) rfl rfl h1 (g3.at_ a.now) (st_cancel hph _ _)) (pqZ)
            · have hm0 : ¬ s.may (decide (0 ≤ a.n ∧ a.n ≤ 1000)) a.now = 0 := c8
              have hce : s.canE a.n a.now = (rsOf s).may (decide (0 ≤ a.n ∧ a.n ≤ 1000)) a.now := by unfold PS.canE; rw [if_pos hm0]; rfl
              have hcn : s.cancel a.n a.now = s := by unfold PS.cancel; rw [if_pos (by rw [hce]; exact hm0)]
              refine WL_skip rfl rfl rfl ?_
              refine WL_skip rfl rfl rfl ?_
              refine WL_skip rfl rfl rfl ?_
              refine WL_skip rfl rfl rfl ?_
              refine WL_skip rfl rfl rfl ?_
              refine WL_val rfl rfl rfl (R_pickF rfl rfl rfl) ?_
              refine WL_nil ?_
              refine WQ_code ?_
              refine WC_F rfl ?_
              refine WC_skip ?_
              refine WQ_code ?_
              refine WC_seq ?_
              refine WC_seq ?_
              refine WC_region ?_
              refine WL_val rfl rfl rfl (R_move rfl rfl) ?_
              refine WL_val rfl rfl rfl (R_eql rfl rfl rfl) ?_
              refine WL_nil ?_
              refine WQ_code ?_
              refine WC_dF rfl (by exact hm0) ?_
              refine WC_skip ?_
              refine WQ_code ?_
              refine WC_seq ?_
              refine WC_drawR (⟨some b3, _⟩ :: poH m s) [(0, true), (1, true), (2, true), (3, true), (4, true), (5, true), (6, true), (8, true), (7, false), (9, true), (10, true), (11, false), (12, true)] followsMixed rfl rfl (by kernel_rfl) (pqZ) ?_
              refine WM_val rfl rfl rfl rfl (R_move rfl rfl) ?_
              refine WM_val rfl rfl rfl rfl (R_loadA (vs := [_, _, _, _, _, _, _]) rfl ag58 rfl (mmZ) rfl (atZ)) ?_
              refine WM_val rfl rfl rfl rfl (R_move rfl rfl) ?_
              refine WM_val rfl rfl rfl rfl (R_fieldAddr rfl fa41_1 rfl) ?_
              refine WM_val rfl rfl rfl rfl (R_load rfl sc3 rfl (mmZ) rfl) ?_
              refine WM_val rfl rfl rfl rfl (R_fieldAddr rfl fa41_2 rfl) ?_
              refine WM_val rfl rfl rfl rfl (R_load rfl sc28 rfl (mmZ) rfl) ?_
              refine WM_val rfl rfl rfl rfl (R_move rfl rfl) ?_
              refine WM_do rfl rfl rfl rfl (D_call (pcancel_ok h hE2 a.n a.now hb) rfl rfl rfl rfl (pqZ)) ?_
              rintro _ _ ⟨_, ⟨m1, rfl, rfl, hp1, h1⟩, rfl⟩
              refine ⟨⟨_, pqZ⟩, ?_⟩
              rw [← hp1]
              refine WM_val rfl rfl rfl rfl (R_eql rfl rfl rfl) ?_
              refine WM_set (s := 153) (v := .bool true) rfl (by exact congrArg Value.bool (decide_eq_true hce)) ?_
              refine WM_val rfl rfl rfl rfl (R_assign rfl rfl) ?_
              refine WM_do0 rfl rfl rfl (D_store (vs := [_, _, _, _, _, _, _]) rfl Try.sizeOf58 rfl rfl rfl rfl rfl (plZ) (by exact Nat.le_of_ble_eq_true rfl)) ?_
              rintro _ _ rfl
              refine ⟨⟨_, pqZ⟩, ?_⟩
              refine WM_val rfl rfl rfl rfl (R_assign rfl rfl) ?_
              refine WM_nil ?_
              refine WQ_code ?_
              refine WC_ret ?_
              refine WQ_ret rfl rfl (.cons (.tmp rfl) (.cons (.cell (vs := [_, _, _, _, _, _, _]) rfl ag58 (mmZ) rfl (atZ)) (.cons (.tmp rfl) .nil))) rfl (by
                  exact sp_mk m1 (s.cancel a.n a.now) M (congrArg rsOf hcn) rfl rfl h1 hM (st_cancel hph _ _)) (pqZ)
        · refine WC_seq ?_
          refine WC_region ?_
          refine WL_val rfl rfl rfl (R_eql rfl rfl rfl) ?_
          refine WL_val rfl rfl rfl (R_assign rfl rfl) ?_
          refine WL_nil ?_
          refine WQ_code ?_
          refine WC_dec rfl (fun c10 => ?_) (fun c10 => ?_)
          · refine WC_seq ?_
            refine WC_region ?_
            refine WL_val rfl rfl rfl (R_loadA (vs := [_, _, _, _, _, _, _]) rfl ag58 rfl (mmZ) rfl (atZ)) ?_
            refine WL_val rfl rfl rfl (R_fieldAddr rfl fa41_2 rfl) ?_
            refine WL_val rfl rfl rfl (R_load rfl sc28 rfl (mmZ) rfl) ?_
            refine WL_do rfl rfl rfl (D_call (kadv_ok hM hw hE3 a.now hb) rfl rfl rfl rfl (pqZ)) ?_
            rintro _ _ ⟨_, ⟨M2, rfl, rfl, g2⟩, rfl⟩
            refine WL_val rfl rfl rfl (R_move rfl rfl) ?_
            refine WL_val rfl rfl rfl (R_extract rfl rfl rfl) ?_
            refine WL_val rfl rfl rfl (R_extract rfl rfl rfl) ?_
            refine WL_do rfl rfl rfl (D_alloc rfl zv58) ?_
            rintro _ _ ⟨b9, rfl, rfl⟩
            refine WL_do0 rfl rfl (D_store (vs := [_, _, _, _, _, _, _]) rfl Try.sizeOf58 rfl rfl rfl rfl rfl (plZ) (by exact Nat.le_of_ble_eq_true rfl)) ?_
            rintro _ _ rfl
            refine WL_val rfl rfl rfl (R_assign rfl rfl) ?_
            refine WL_nil ?_
            refine WQ_code ?_
            refine WC_seq ?_
            refine WC_drawR (⟨some b3, _⟩ :: poH m s) [(0, true), (1, true), (2, true), (3, true), (4, true), (6, true), (5, false), (7, true), (8, true), (9, false), (10, true)] followsMixed rfl rfl (by kernel_rfl) (pqZ) ?_
            refine WM_val rfl rfl rfl rfl (R_move rfl rfl) ?_
            refine WM_val rfl rfl rfl rfl (R_loadA (vs := [_, _, _, _, _, _, _]) rfl ag58 rfl (mmZ) rfl (atZ)) ?_
            refine WM_val rfl rfl rfl rfl (R_move rfl rfl) ?_
            refine WM_val rfl rfl rfl rfl (R_fieldAddr rfl fa41_2 rfl) ?_
            refine WM_val rfl rfl rfl rfl (R_load rfl sc28 rfl (mmZ) rfl) ?_
            refine WM_val rfl rfl rfl rfl (R_move rfl rfl) ?_
            refine WM_do rfl rfl rfl rfl (D_call (padv_ok h hE2 a.now hb h19) rfl rfl rfl rfl (pqZ)) ?_
            rintro _ _ ⟨_, ⟨m1, rfl, rfl, hp1, h1⟩, rfl⟩
            refine ⟨⟨_, pqZ⟩, ?_⟩
            rw [← hp1]
            refine WM_val rfl rfl rfl rfl (R_eql rfl rfl rfl) ?_
            refine WM_set (s := 170) (v := .bool true) rfl (by simp) ?_
            refine WM_val rfl rfl rfl rfl (R_assign rfl rfl) ?_
            refine WM_do0 rfl rfl rfl (D_store (vs := [_, _, _, _, _, _, _]) rfl Try.sizeOf58 rfl rfl rfl rfl rfl (plZ) (by exact Nat.le_of_ble_eq_true rfl)) ?_
            rintro _ _ rfl
            refine ⟨⟨_, pqZ⟩, ?_⟩
            refine WM_val rfl rfl rfl rfl (R_assign rfl rfl) ?_
            refine WM_nil ?_
            refine WQ_code ?_
            refine WC_ret ?_
            refine WQ_ret rfl rfl (.cons (.tmp rfl) (.cons (.cell (vs := [_, _, _, _, _, _, _]) rfl ag58 (mmZ) rfl (atZ)) (.cons (.tmp rfl) .nil))) rfl (by
                exact ⟨m1, s.advance a.now, M2, rfl, rfl, h1, g2, st_adv hph _⟩) (pqZ)
          · refine WC_seq ?_
            refine WC_region ?_
            refine WL_val rfl rfl rfl (R_eql rfl rfl rfl) ?_
            refine WL_val rfl rfl rfl (R_assign rfl rfl) ?_
            refine WL_nil ?_
            refine WQ_code ?_
            refine WC_dec rfl (fun c11 => ?_) (fun c11 => ?_)
            · refine WC_seq ?_
              refine WC_region ?_
              refine WL_val rfl rfl rfl (R_move rfl rfl) ?_
              refine WL_do rfl rfl rfl (D_call (pnext_or h) rfl rfl rfl rfl (pqZ)) ?_
              rintro _ _ ⟨_, ⟨m1, (⟨hE9, rfl⟩ | ⟨x9, r9, hE9, rfl⟩), rfl, hp1, h1⟩, rfl⟩
              · rw [← hp1]
                have hnx : s.nx = s := by unfold PS.nx; rw [hE9]; show { s with E := [] } = s; rw [← hE9]
                refine WL_val rfl rfl rfl (R_move rfl rfl) ?_
                refine WL_val rfl rfl rfl (R_extract rfl rfl rfl) ?_
                refine WL_val rfl rfl rfl (R_extract rfl rfl rfl) ?_
                refine WL_do rfl rfl rfl (D_alloc rfl zv44) ?_
                rintro _ _ ⟨b10, rfl, rfl⟩
                refine WL_do0 rfl rfl (D_store (vs := [_, _, _]) rfl Try.sizeOf44 rfl rfl rfl rfl rfl (plZ) (by exact Nat.le_of_ble_eq_true rfl)) ?_
                rintro _ _ rfl
                refine WL_val rfl rfl rfl (R_assign rfl rfl) ?_
                refine WL_nil ?_
                refine WQ_code ?_
                refine WC_seq ?_
                refine WC_seq ?_
                refine WC_region ?_
                refine WL_val rfl rfl rfl (R_fieldAddr rfl fa58_6 rfl) ?_
                refine WL_val rfl rfl rfl (R_load rfl sc56 rfl (mmZ) rfl) ?_
                refine WL_val rfl rfl rfl (R_len rfl Try.underlying56 rfl) ?_
                refine WL_val rfl rfl rfl (R_eql rfl rfl rfl) ?_
                refine WL_nil ?_
                refine WQ_code ?_
                refine WC_dT rfl (by rw [hrE, hE9]; rfl) ?_
                refine WC_seq ?_
                refine WC_drawR [⟨some b3, _⟩] [(0, true), (1, true), (2, true), (3, true), (4, true), (5, true), (6, true), (7, true), (8, true), (9, true), (10, false), (11, true)] followsMixed rfl rfl (by kernel_rfl) (pqZ) ?_
                refine WM_val rfl rfl rfl rfl (R_move rfl rfl) ?_
                refine WM_val rfl rfl rfl rfl (R_loadA (vs := [_, _, _, _, _, _, _]) rfl ag58 rfl (mmZ) rfl (atZ)) ?_
                refine WM_val rfl rfl rfl rfl (R_loadA (vs := [_, _, _]) rfl ag44 rfl (mmZ) rfl (atZ)) ?_
                refine WM_val rfl rfl rfl rfl (R_build rfl zv44 pl44 rfl rfl) ?_
                refine WM_val rfl rfl rfl rfl (R_seq44 rfl rfl rfl rfl) ?_
                refine WM_val rfl rfl rfl rfl (R_move rfl rfl) ?_
                refine WM_set (s := 187) (v := .bool true) rfl (by simp) ?_
                refine WM_val rfl rfl rfl rfl (R_move rfl rfl) ?_
                refine WM_val rfl rfl rfl rfl (R_not rfl rfl) ?_
                refine WM_val rfl rfl rfl rfl (R_pickT rfl rfl rfl) ?_
                refine WM_set (s := 190) (v := .bool true) rfl (by simp) ?_
                refine WM_val rfl rfl rfl rfl (R_assign rfl rfl) ?_
                refine WM_do0 rfl rfl rfl (D_store (vs := [_, _, _, _, _, _, _]) rfl Try.sizeOf58 rfl rfl rfl rfl rfl (plZ) (by exact Nat.le_of_ble_eq_true rfl)) ?_
                rintro _ _ rfl
                refine ⟨⟨_, pqZ⟩, ?_⟩
                refine WM_val rfl rfl rfl rfl (R_assign rfl rfl) ?_
                refine WM_nil ?_
                refine WQ_code ?_
                refine WC_ret ?_
                refine WQ_ret rfl rfl (.cons (.tmp rfl) (.cons (.cell (vs := [_, _, _, _, _, _, _]) rfl ag58 (mmZ) rfl (atZ)) (.cons (.tmp rfl) .nil))) rfl (by
                    exact sp_mk m1 s.nx M (congrArg rsOf hnx) rfl rfl h1 hM (st_nx hph)) (pqZ)
              · rw [← hp1]
                have hnx : rsOf s.nx = { rsOf s with E := r9 } := by unfold PS.nx; rw [hE9]; rfl
                obtain ⟨we, hwe⟩ := hM.e.some_of (by rw [hrE, hE9]; exact Nat.succ_pos _)
                have hlen : (rsOf s).E.length = r9.length + 1 := by rw [hrE, hE9]; rfl
                refine WL_val rfl rfl rfl (R_move rfl rfl) ?_
                refine WL_val rfl rfl rfl (R_extract rfl rfl rfl) ?_
                refine WL_val rfl rfl rfl (R_extract rfl rfl rfl) ?_
                refine WL_do rfl rfl rfl (D_alloc rfl zv44) ?_
                rintro _ _ ⟨b11, rfl, rfl⟩
                refine WL_do0 rfl rfl (D_store (vs := [_, _, _]) rfl Try.sizeOf44 rfl rfl rfl rfl rfl (plZ) (by exact Nat.le_of_ble_eq_true rfl)) ?_
                rintro _ _ rfl
                refine WL_val rfl rfl rfl (R_assign rfl rfl) ?_
                refine WL_nil ?_
                refine WQ_code ?_
                refine WC_seq ?_
                refine WC_seq ?_
                refine WC_region ?_
                refine WL_val rfl rfl rfl (R_fieldAddr rfl fa58_6 rfl) ?_
                refine WL_val rfl rfl rfl (R_load rfl sc56 rfl (mmZ) rfl) ?_
                refine WL_val rfl rfl rfl (R_len rfl Try.underlying56 rfl) ?_
                refine WL_val rfl rfl rfl (R_eql rfl rfl rfl) ?_
                refine WL_nil ?_
                refine WQ_code ?_
                refine WC_dF rfl (by rw [hlen]; omega) ?_
                refine WC_skip ?_
                refine WQ_code ?_
                refine WC_seq ?_
                refine WC_region ?_
                refine WL_val rfl rfl rfl (R_fieldAddr rfl fa58_6 rfl) ?_
                refine WL_val rfl rfl rfl (R_load rfl sc56 rfl (mmZ) rfl) ?_
                refine WL_val rfl rfl rfl (R_indexS (i := 0) hwe rfl Try.underlying56 Try.sizeOf44 rfl rfl (by omega)) ?_
                refine WL_val rfl rfl rfl (R_loadAO (vs := [.int .i64 x9.k, .int .i64 x9.who, .int .i64 x9.c]) hwe rfl ag44 rfl (mmZ) rfl (hM.e.atE (i := 0) (x := x9) (by rw [hrE, hE9]; rfl) (by omega))) ?_
                refine WL_do rfl rfl rfl (D_alloc rfl zv44) ?_
                rintro _ _ ⟨b12, rfl, rfl⟩
                refine WL_do0 rfl rfl (D_store (vs := [_, _, _]) rfl Try.sizeOf44 rfl rfl rfl rfl rfl (plZ) (by exact Nat.le_of_ble_eq_true rfl)) ?_
                rintro _ _ rfl
                refine WL_nil ?_
                refine WQ_code ?_
                refine WC_seq ?_
                refine WC_region ?_
                refine WL_val rfl rfl rfl (R_fieldAddr rfl fa58_6 rfl) ?_
                refine WL_val rfl rfl rfl (R_load rfl sc56 rfl (mmZ) rfl) ?_
                refine WL_val rfl rfl rfl (R_cut1 (m := r9.length) hwe rfl Try.underlying56 Try.sizeOf44 rfl rfl hlen) ?_
                refine WL_val rfl rfl rfl (R_fieldAddr rfl fa58_6 rfl) ?_
                refine WL_do0 rfl rfl (D_store (vs := [_]) rfl Try.sizeOf56 rfl rfl rfl rfl rfl (plZ) (by exact Nat.le_of_ble_eq_true rfl)) ?_
                rintro _ _ rfl
                refine WL_nil ?_
                refine WQ_code ?_
                refine WC_seq ?_
                refine WC_drawR [⟨some b3, _⟩] [(0, true), (1, true), (2, true), (3, true), (4, true), (5, true), (6, true), (7, true), (8, true), (9, false), (10, true)] followsMixed rfl rfl (by kernel_rfl) (pqZ) ?_
                refine WM_val rfl rfl rfl rfl (R_move rfl rfl) ?_
                refine WM_val rfl rfl rfl rfl (R_loadA (vs := [_, _, _, _, _, _, _]) rfl ag58 rfl (mmZ) rfl (atZ)) ?_
                refine WM_val rfl rfl rfl rfl (R_loadA (vs := [_, _, _]) rfl ag44 rfl (mmZ) rfl (atZ)) ?_
                refine WM_val rfl rfl rfl rfl (R_loadA (vs := [_, _, _]) rfl ag44 rfl (mmZ) rfl (atZ)) ?_
                refine WM_val rfl rfl rfl rfl (R_seq44 rfl rfl rfl rfl) ?_
                refine WM_val rfl rfl rfl rfl (R_move rfl rfl) ?_
                refine WM_set (s := 204) (v := .bool true) rfl (by simp) ?_
                refine WM_val rfl rfl rfl rfl (R_move rfl rfl) ?_
                refine WM_val rfl rfl rfl rfl (R_pickT rfl rfl rfl) ?_
                refine WM_set (s := 206) (v := .bool true) rfl (by simp) ?_
                refine WM_val rfl rfl rfl rfl (R_assign rfl rfl) ?_
                refine WM_do0 rfl rfl rfl (D_store (vs := [_, _, _, _, _, _, _]) rfl Try.sizeOf58 rfl rfl rfl rfl rfl (plZ) (by exact Nat.le_of_ble_eq_true rfl)) ?_
                rintro _ _ rfl
                refine ⟨⟨_, pqZ⟩, ?_⟩
                refine WM_val rfl rfl rfl rfl (R_assign rfl rfl) ?_
                refine WM_nil ?_
                refine WQ_code ?_
                refine WC_ret ?_
                rw [show mdE M (rsOf s) = (⟨M.eb, cl ((M.epre ++ encV x9) ++ (r9.flatMap encV ++ M.etl)) 44⟩ : Ent) from by show (⟨_, cl (M.epre ++ (s.E.flatMap encV ++ M.etl)) _⟩ : Ent) = _; rw [hE9]; simp]
                refine WQ_ret rfl rfl (.cons (.tmp rfl) (.cons (.cell (vs := [_, _, _, _, _, _, _]) rfl ag58 (mmZ) rfl (atZ)) (.cons (.tmp rfl) .nil))) rfl (by
                    exact sp_mk m1 s.nx { M with ek := if M.ec = 1 then M.ek else M.ek + 3, ec := M.ec - 1, epre := M.epre ++ encV x9 } hnx rfl rfl h1 (by rw [← hnx]; exact hM.nx hE9) (st_nx hph)) (pqZ)
            · refine WC_skip ?_
              refine WQ_code ?_
              refine WC_seq ?_
              refine WC_region ?_
              refine WL_val rfl rfl rfl (R_move rfl rfl) ?_
              refine WL_do rfl rfl rfl (D_call (pcopy_ok h (by omega)) rfl rfl rfl rfl (pqZ)) ?_
              rintro _ _ ⟨_, ⟨m2, rfl, rfl, h2⟩, rfl⟩
              refine WL_val rfl rfl rfl (R_assign rfl rfl) ?_
              refine WL_nil ?_
              refine WQ_code ?_
              refine WC_seq ?_
              refine WC_region ?_
              refine WL_val rfl rfl rfl (R_move rfl rfl) ?_
              refine WL_val rfl rfl rfl (R_fieldAddr rfl fa58_3 rfl) ?_
              refine WL_val rfl rfl rfl (R_load rfl sc28 rfl (mmZ) rfl) ?_
              refine WL_do rfl rfl rfl (D_call (pget_ok h hE2 hn2 999 s.now 18446744073709551615 (by have := h.now; omega)) rfl rfl rfl rfl (pqZ)) ?_
              rintro _ _ ⟨_, ⟨m1, rfl, rfl, hp1, h1⟩, rfl⟩
              rw [← hp1]
              refine WL_nil ?_
              refine WQ_code ?_
              refine WC_seq ?_
              refine WC_region ?_
              refine WL_val rfl rfl rfl (R_move rfl rfl) ?_
              refine WL_val rfl rfl rfl (R_fieldAddr rfl fa58_3 rfl) ?_
              refine WL_val rfl rfl rfl (R_load rfl sc28 rfl (mmZ) rfl) ?_
              refine WL_do rfl rfl rfl (D_call (pput_ok h1 (by rw [getS_E]; exact hE2) 0 false s.now (by have := h.now; omega)) rfl rfl rfl rfl (pqZ)) ?_
              rintro _ _ ⟨_, ⟨m3, rfl, rfl, hp3, h3⟩, rfl⟩
              rw [← hp3]
              refine WL_nil ?_
              refine WQ_code ?_
              refine WC_seq ?_
              refine WC_region ?_
              refine WL_val rfl rfl rfl (R_move rfl rfl) ?_
              refine WL_do rfl rfl rfl (D_call (pnext_or h3) rfl rfl rfl rfl (pqZ)) ?_
              rintro _ _ ⟨_, ⟨m4, _, rfl, hp4, h4⟩, rfl⟩
              rw [← hp4]
              refine WL_nil ?_
              refine WQ_code ?_
              refine WC_seq ?_
              refine WC_drawR [⟨some b3, _⟩] [(0, true), (1, true), (2, true), (3, true), (4, true), (5, false), (6, true)] followsMixed rfl rfl (by kernel_rfl) (pqZ) ?_
              refine WM_val rfl rfl rfl rfl (R_move rfl rfl) ?_
              refine WM_val rfl rfl rfl rfl (R_loadA (vs := [_, _, _, _, _, _, _]) rfl ag58 rfl (mmZ) rfl (atZ)) ?_
              refine WM_val rfl rfl rfl rfl (R_move rfl rfl) ?_
              refine WM_val rfl rfl rfl rfl (R_ptrNeNil rfl Try.underlying23 rfl) ?_
              refine WM_set (s := 222) (v := .bool true) rfl (by simp) ?_
              refine WM_val rfl rfl rfl rfl (R_assign rfl rfl) ?_
              refine WM_do0 rfl rfl rfl (D_store (vs := [_, _, _, _, _, _, _]) rfl Try.sizeOf58 rfl rfl rfl rfl rfl (plZ) (by exact Nat.le_of_ble_eq_true rfl)) ?_
              rintro _ _ rfl
              refine ⟨⟨_, pqZ⟩, ?_⟩
              refine WM_val rfl rfl rfl rfl (R_assign rfl rfl) ?_
              refine WM_nil ?_
              refine WQ_code ?_
              refine WC_ret ?_
              refine WQ_ret rfl rfl (.cons (.tmp rfl) (.cons (.cell (vs := [_, _, _, _, _, _, _]) rfl ag58 (mmZ) rfl (atZ)) (.cons (.tmp rfl) .nil))) rfl (by
                  exact ⟨m2, s, M, rfl, rfl, h2, hM, st_refl hph⟩) (pqZ)
end Go.Proofs.Yteofigbgdbpjgaa
end
section
set_option linter.unusedVariables false
set_option maxRecDepth 20000
namespace Go.Proofs.Yteofigbgdbpjgaa
abbrev kS (now : Nat) (x : Cn) (Q : List Qp) (n : Nat) (E : List Pv) : PS := ⟨1, 1, 10, now, x :: List.replicate 63 ⟨0, 0, 0⟩, Q, n, E⟩
abbrev kq0 : PS := kS 0 ⟨0, 0, 0⟩ [] 0 []
abbrev kq1 : PS := kS 0 ⟨1, 5, 0⟩ [] 0 []
abbrev kq2 : PS := kS 0 ⟨1, 5, 0⟩ [⟨1, 6, 9⟩] 1 []
abbrev kq3 : PS := kS 1 ⟨2, 0, 0⟩ [⟨1, 6, 9⟩] 1 []
abbrev kq4 : PS := kS 2 ⟨2, 0, 0⟩ [] 1 [⟨1, 6, 0⟩]
abbrev kq5 : PS := kS 2 ⟨2, 0, 0⟩ [] 1 []
abbrev kq6 : PS := kS 3 ⟨3, 0, 3⟩ [] 1 []
abbrev kq7 : PS := kS 4 ⟨2, 0, 0⟩ [] 1 []
abbrev kq8 : PS := kS 4 ⟨3, 0, 4⟩ [] 1 []
abbrev kq9 : PS := kS 13 ⟨3, 0, 4⟩ [] 1 []
abbrev kq10 : PS := kS 14 ⟨0, 0, 0⟩ [] 1 [⟨5, -1, 0⟩]
abbrev kq11 : PS := kS 14 ⟨0, 0, 0⟩ [] 1 []
abbrev kq12 : PS := kS 14 ⟨1, 7, 0⟩ [] 1 []
abbrev kq13 : PS := kS 14 ⟨1, 7, 0⟩ [⟨2, 8, 20⟩] 2 []
abbrev kq14 : PS := kS 14 ⟨1, 7, 0⟩ [⟨2, 8, 20⟩] 2 []
abbrev kq15 : PS := kS 20 ⟨1, 7, 0⟩ [] 2 [⟨4, 8, -1⟩]
abbrev kq16 : PS := kS 20 ⟨1, 7, 0⟩ [] 2 []
abbrev kq17 : PS := kS 20 ⟨1, 7, 0⟩ [⟨3, 9, 30⟩] 3 []
abbrev kq18 : PS := kS 21 ⟨1, 9, 0⟩ [] 3 [⟨2, 9, 0⟩]
abbrev kq19 : PS := kS 21 ⟨1, 9, 0⟩ [] 3 []
abbrev kq20 : PS := kS 21 ⟨1, 9, 0⟩ [] 3 []
theorem kq0_eq : PS.new 1 1 10 = kq0 := by kernel_rfl
theorem kq1_eq : kq0.getS 5 0 9 = kq1 := by kernel_rfl
theorem kq2_eq : kq1.getS 6 0 9 = kq2 := by kernel_rfl
theorem kq3_eq : kq2.dialed 0 true 1 = kq3 := by kernel_rfl
theorem kq4_eq : kq3.put 0 true 2 = kq4 := by kernel_rfl
theorem kq5_eq : kq4.nx = kq5 := by kernel_rfl
theorem kq6_eq : kq5.put 0 true 3 = kq6 := by kernel_rfl
theorem kq7_eq : kq6.getS 7 4 9 = kq7 := by kernel_rfl
theorem kq8_eq : kq7.put 0 true 4 = kq8 := by kernel_rfl
theorem kq9_eq : kq8.advance 13 = kq9 := by
  rw [adv_eval (s := kq8) (s1 := kS 13 ⟨3, 0, 4⟩ [] 1 []) (L := []) (O := []) (now := 13) (by kernel_rfl) (by kernel_rfl) (Nat.le_of_ble_eq_true rfl) (by kernel_rfl) (by kernel_rfl) (Nat.le_of_ble_eq_true rfl)]
  kernel_rfl
theorem kq10_eq : kq9.advance 14 = kq10 := by
  rw [adv_eval (s := kq9) (s1 := kS 14 ⟨3, 0, 4⟩ [] 1 []) (L := []) (O := [0]) (now := 14) (by kernel_rfl) (by kernel_rfl) (Nat.le_of_ble_eq_true rfl) (by kernel_rfl) (by kernel_rfl) (Nat.le_of_ble_eq_true rfl)]
  kernel_rfl
theorem kq11_eq : kq10.nx = kq11 := by kernel_rfl
theorem kq12_eq : kq11.getS 7 14 99 = kq12 := by kernel_rfl
theorem kq13_eq : kq12.getS 8 14 20 = kq13 := by kernel_rfl
theorem kq14_eq : kq13.getS 8 14 20 = kq14 := by kernel_rfl
theorem kq15_eq : kq14.advance 20 = kq15 := by
  rw [adv_eval (s := kq14) (s1 := kS 20 ⟨1, 7, 0⟩ [] 2 [⟨4, 8, -1⟩]) (L := [⟨2, 8, 20⟩]) (O := []) (now := 20) (by kernel_rfl) (by kernel_rfl) (Nat.le_of_ble_eq_true rfl) (by kernel_rfl) (by kernel_rfl) (Nat.le_of_ble_eq_true rfl)]
  kernel_rfl
theorem kq16_eq : kq15.nx = kq16 := by kernel_rfl
theorem kq17_eq : kq16.getS 9 20 30 = kq17 := by kernel_rfl
theorem kq18_eq : kq17.dialed 0 false 21 = kq18 := by kernel_rfl
theorem kq19_eq : kq18.nx = kq19 := by kernel_rfl
theorem kq20_eq : kq19.put 0 true 21 = kq20 := by kernel_rfl
end Go.Proofs.Yteofigbgdbpjgaa
end
section
set_option linter.unusedVariables false
set_option maxRecDepth 20000
set_option maxHeartbeats 4000000
namespace Go.Proofs.Yteofigbgdbpjgaa
theorem known_ok : Spec Try.prog 7 [] [] (fun r H' => r = .bool true ∧ H' = []) := by
  refine Spec.of (E := []) Try.func7 rfl (by kernel_rfl) Try.ntmps7 rfl rfl (fun w => ?_)
  refine WC_seq ?_
  refine WC_region ?_
  refine WL_val rfl rfl rfl (R_assign rfl rfl) ?_
  refine WL_nil ?_
  refine WQ_code ?_
  refine WC_seq ?_
  refine WC_region ?_
  refine WL_do rfl rfl rfl (D_call (pnew_ok 1 1 10 (by decide) (by decide) (by decide)) rfl rfl rfl rfl (pqZ)) ?_
  rintro _ _ ⟨_, ⟨m0, rfl, rfl, g0⟩, rfl⟩
  rw [kq0_eq] at g0 ⊢
  refine WL_val rfl rfl rfl (R_move rfl rfl) ?_
  refine WL_val rfl rfl rfl (R_extract rfl rfl rfl) ?_
  refine WL_val rfl rfl rfl (R_extract rfl rfl rfl) ?_
  refine WL_val rfl rfl rfl (R_assign rfl rfl) ?_
  refine WL_val rfl rfl rfl (R_assign rfl rfl) ?_
  refine WL_nil ?_
  refine WQ_code ?_
  refine WC_seq ?_
  refine WC_seq ?_
  refine WC_region ?_
  refine WL_val rfl rfl rfl (R_move rfl rfl) ?_
  refine WL_val rfl rfl rfl (R_ptrEqNil rfl Try.underlying23 rfl) ?_
  refine WL_set (s := 12) (v := .bool false) rfl (by rfl) ?_
  refine WL_val rfl rfl rfl (R_move rfl rfl) ?_
  refine WL_val rfl rfl rfl (R_move rfl rfl) ?_
  refine WL_val rfl rfl rfl (R_neq rfl rfl rfl) ?_
  refine WL_val rfl rfl rfl (R_pickF rfl rfl rfl) ?_
  refine WL_val rfl rfl rfl (R_move rfl rfl) ?_
  refine WL_set (s := 17) (v := .bool false) rfl (by simp) ?_
  refine WL_val rfl rfl rfl (R_move rfl rfl) ?_
  refine WL_do rfl rfl rfl (D_call (gets_ok g0 (Nat.le_of_ble_eq_true rfl) (Nat.le_of_ble_eq_true rfl) 5 0 9 (Nat.le_of_ble_eq_true rfl) 2 (0) (by kernel_rfl) (by kernel_rfl)) rfl rfl rfl rfl (pqZ)) ?_
  rintro _ _ ⟨_, ⟨m1, rfl, rfl, p1, g1⟩, rfl⟩
  rw [kq1_eq] at g1 ⊢
  rw [← p1]
  refine WL_val rfl rfl rfl (R_not rfl rfl) ?_
  refine WL_val rfl rfl rfl (R_pickF rfl rfl rfl) ?_
  refine WL_val rfl rfl rfl (R_move rfl rfl) ?_
  refine WL_val rfl rfl rfl (R_move rfl rfl) ?_
  refine WL_do rfl rfl rfl (D_call (gets_ok g1 (Nat.le_of_ble_eq_true rfl) (Nat.le_of_ble_eq_true rfl) 6 0 9 (Nat.le_of_ble_eq_true rfl) 3 (-1) (by kernel_rfl) (by kernel_rfl)) rfl rfl rfl rfl (pqZ)) ?_
  rintro _ _ ⟨_, ⟨m2, rfl, rfl, p2, g2⟩, rfl⟩
  rw [kq2_eq] at g2 ⊢
  rw [← p2]
  refine WL_val rfl rfl rfl (R_not rfl rfl) ?_
  refine WL_val rfl rfl rfl (R_pickF rfl rfl rfl) ?_
  refine WL_val rfl rfl rfl (R_move rfl rfl) ?_
  refine WL_val rfl rfl rfl (R_move rfl rfl) ?_
  refine WL_do rfl rfl rfl (D_call (pdialed_ok g2 (Nat.le_of_ble_eq_true rfl) 0 true 1 (Nat.le_of_ble_eq_true rfl)) rfl rfl rfl rfl (pqZ)) ?_
  rintro _ _ ⟨_, ⟨m3, rfl, rfl, p3, g3⟩, rfl⟩
  rw [kq3_eq] at g3 ⊢
  rw [← p3]
  rw [show kq2.inE 0 1 1 = 0 from by kernel_rfl]
  refine WL_val rfl rfl rfl (R_neq rfl rfl rfl) ?_
  refine WL_val rfl rfl rfl (R_pickF rfl rfl rfl) ?_
  refine WL_val rfl rfl rfl (R_move rfl rfl) ?_
  refine WL_set (s := 32) (v := .bool false) rfl (by simp) ?_
  refine WL_val rfl rfl rfl (R_move rfl rfl) ?_
  refine WL_do rfl rfl rfl (D_call (pput_ok g3 (Nat.le_of_ble_eq_true rfl) 0 true 2 (Nat.le_of_ble_eq_true rfl)) rfl rfl rfl rfl (pqZ)) ?_
  rintro _ _ ⟨_, ⟨m4, rfl, rfl, p4, g4⟩, rfl⟩
  rw [kq4_eq] at g4 ⊢
  rw [← p4]
  rw [show kq3.inE 0 2 2 = 0 from by kernel_rfl]
  refine WL_val rfl rfl rfl (R_neq rfl rfl rfl) ?_
  refine WL_val rfl rfl rfl (R_pickF rfl rfl rfl) ?_
  refine WL_val rfl rfl rfl (R_move rfl rfl) ?_
  refine WL_set (s := 37) (v := .bool false) rfl (by simp) ?_
  refine WL_val rfl rfl rfl (R_move rfl rfl) ?_
  refine WL_do rfl rfl rfl (D_call (tells_ok g4 1 (6) (0) rfl) rfl rfl rfl rfl (pqZ)) ?_
  rintro _ _ ⟨_, ⟨m5, rfl, rfl, p5, g5⟩, rfl⟩
  rw [kq5_eq] at g5 ⊢
  rw [← p5]
  refine WL_val rfl rfl rfl (R_not rfl rfl) ?_
  refine WL_val rfl rfl rfl (R_pickF rfl rfl rfl) ?_
  refine WL_val rfl rfl rfl (R_move rfl rfl) ?_
  refine WL_val rfl rfl rfl (R_move rfl rfl) ?_
  refine WL_do rfl rfl rfl (D_call (pcounts_ok g5) rfl rfl rfl rfl (pqZ)) ?_
  rintro _ _ ⟨_, ⟨rfl, rfl⟩, rfl⟩
  refine WL_val rfl rfl rfl (R_build rfl zv33 pl33 rfl rfl) ?_
  refine WL_val rfl rfl rfl (R_sne33 rfl rfl rfl rfl) ?_
  refine WL_set (s := 46) (v := .bool false) rfl (by exact congrArg Value.bool (by kernel_rfl)) ?_
  refine WL_val rfl rfl rfl (R_pickF rfl rfl rfl) ?_
  refine WL_nil ?_
  refine WQ_code ?_
  refine WC_F rfl ?_
  refine WC_skip ?_
  refine WQ_code ?_
  refine WC_seq ?_
  refine WC_seq ?_
  refine WC_region ?_
  refine WL_val rfl rfl rfl (R_move rfl rfl) ?_
  refine WL_do rfl rfl rfl (D_call (pput_ok g5 (Nat.le_of_ble_eq_true rfl) 0 true 3 (Nat.le_of_ble_eq_true rfl)) rfl rfl rfl rfl (pqZ)) ?_
  rintro _ _ ⟨_, ⟨m6, rfl, rfl, p6, g6⟩, rfl⟩
  rw [kq6_eq] at g6 ⊢
  rw [← p6]
  rw [show kq5.inE 0 2 3 = 0 from by kernel_rfl]
  refine WL_val rfl rfl rfl (R_neq rfl rfl rfl) ?_
  refine WL_val rfl rfl rfl (R_move rfl rfl) ?_
  refine WL_set (s := 51) (v := .bool false) rfl (by simp) ?_
  refine WL_val rfl rfl rfl (R_move rfl rfl) ?_
  refine WL_do rfl rfl rfl (D_call (gets_ok g6 (Nat.le_of_ble_eq_true rfl) (Nat.le_of_ble_eq_true rfl) 7 4 9 (Nat.le_of_ble_eq_true rfl) 1 (0) (by kernel_rfl) (by kernel_rfl)) rfl rfl rfl rfl (pqZ)) ?_
  rintro _ _ ⟨_, ⟨m7, rfl, rfl, p7, g7⟩, rfl⟩
  rw [kq7_eq] at g7 ⊢
  rw [← p7]
  refine WL_val rfl rfl rfl (R_not rfl rfl) ?_
  refine WL_val rfl rfl rfl (R_pickF rfl rfl rfl) ?_
  refine WL_val rfl rfl rfl (R_move rfl rfl) ?_
  refine WL_val rfl rfl rfl (R_move rfl rfl) ?_
  refine WL_do rfl rfl rfl (D_call (pput_ok g7 (Nat.le_of_ble_eq_true rfl) 0 true 4 (Nat.le_of_ble_eq_true rfl)) rfl rfl rfl rfl (pqZ)) ?_
  rintro _ _ ⟨_, ⟨m8, rfl, rfl, p8, g8⟩, rfl⟩
  rw [kq8_eq] at g8 ⊢
  rw [← p8]
  rw [show kq7.inE 0 2 4 = 0 from by kernel_rfl]
  refine WL_val rfl rfl rfl (R_neq rfl rfl rfl) ?_
  refine WL_val rfl rfl rfl (R_pickF rfl rfl rfl) ?_
  refine WL_val rfl rfl rfl (R_move rfl rfl) ?_
  refine WL_set (s := 61) (v := .bool false) rfl (by simp) ?_
  refine WL_val rfl rfl rfl (R_move rfl rfl) ?_
  refine WL_do rfl rfl rfl (D_call (padv_ok g8 (Nat.le_of_ble_eq_true rfl) 13 (Nat.le_of_ble_eq_true rfl) (of_decide_eq_true (by kernel_rfl))) rfl rfl rfl rfl (pqZ)) ?_
  rintro _ _ ⟨_, ⟨m9, rfl, rfl, p9, g9⟩, rfl⟩
  rw [kq9_eq] at g9 ⊢
  rw [← p9]
  rw [show kq8.may true 13 = 0 from by kernel_rfl]
  refine WL_val rfl rfl rfl (R_neq rfl rfl rfl) ?_
  refine WL_val rfl rfl rfl (R_pickF rfl rfl rfl) ?_
  refine WL_nil ?_
  refine WQ_code ?_
  refine WC_dF rfl (by simp) ?_
  refine WC_skip ?_
  refine WQ_code ?_
  refine WC_seq ?_
  refine WC_seq ?_
  refine WC_region ?_
  refine WL_val rfl rfl rfl (R_move rfl rfl) ?_
  refine WL_do rfl rfl rfl (D_call (pnext_none g9 rfl) rfl rfl rfl rfl (pqZ)) ?_
  rintro _ _ ⟨_, ⟨rfl, rfl⟩, rfl⟩
  refine WL_val rfl rfl rfl (R_move rfl rfl) ?_
  refine WL_val rfl rfl rfl (R_extract rfl rfl rfl) ?_
  refine WL_val rfl rfl rfl (R_extract rfl rfl rfl) ?_
  refine WL_set (s := 70) (v := .bool false) rfl (by rfl) ?_
  refine WL_do rfl rfl rfl (D_alloc rfl zv44) ?_
  rintro _ _ ⟨b1, rfl, rfl⟩
  refine WL_do0 rfl rfl (D_store (vs := [_, _, _]) rfl Try.sizeOf44 rfl rfl rfl rfl rfl (plZ) (by exact Nat.le_of_ble_eq_true rfl)) ?_
  rintro _ _ rfl
  refine WL_val rfl rfl rfl (R_assign rfl rfl) ?_
  refine WL_nil ?_
  refine WQ_code ?_
  refine WC_seq ?_
  refine WC_region ?_
  refine WL_val rfl rfl rfl (R_move rfl rfl) ?_
  refine WL_val rfl rfl rfl (R_move rfl rfl) ?_
  refine WL_val rfl rfl rfl (R_move rfl rfl) ?_
  refine WL_do rfl rfl rfl (D_call (padv_ok g9 (Nat.le_of_ble_eq_true rfl) 14 (Nat.le_of_ble_eq_true rfl) (of_decide_eq_true (by kernel_rfl))) rfl rfl rfl rfl (pqZ)) ?_
  rintro _ _ ⟨_, ⟨m10, rfl, rfl, p10, g10⟩, rfl⟩
  rw [kq10_eq] at g10 ⊢
  rw [← p10]
  rw [show kq9.may true 14 = 0 from by kernel_rfl]
  refine WL_val rfl rfl rfl (R_neq rfl rfl rfl) ?_
  refine WL_val rfl rfl rfl (R_pickF rfl rfl rfl) ?_
  refine WL_val rfl rfl rfl (R_move rfl rfl) ?_
  refine WL_set (s := 77) (v := .bool false) rfl (by simp) ?_
  refine WL_val rfl rfl rfl (R_move rfl rfl) ?_
  refine WL_do rfl rfl rfl (D_call (tells_ok g10 5 (-1) (0) rfl) rfl rfl rfl rfl (pqZ)) ?_
  rintro _ _ ⟨_, ⟨m11, rfl, rfl, p11, g11⟩, rfl⟩
  rw [kq11_eq] at g11 ⊢
  rw [← p11]
  refine WL_val rfl rfl rfl (R_not rfl rfl) ?_
  refine WL_val rfl rfl rfl (R_pickF rfl rfl rfl) ?_
  refine WL_nil ?_
  refine WQ_code ?_
  refine WC_F rfl ?_
  refine WC_skip ?_
  refine WQ_code ?_
  refine WC_seq ?_
  refine WC_seq ?_
  refine WC_region ?_
  refine WL_val rfl rfl rfl (R_move rfl rfl) ?_
  refine WL_do rfl rfl rfl (D_call (gets_ok g11 (Nat.le_of_ble_eq_true rfl) (Nat.le_of_ble_eq_true rfl) 7 14 99 (Nat.le_of_ble_eq_true rfl) 2 (0) (by kernel_rfl) (by kernel_rfl)) rfl rfl rfl rfl (pqZ)) ?_
  rintro _ _ ⟨_, ⟨m12, rfl, rfl, p12, g12⟩, rfl⟩
  rw [kq12_eq] at g12 ⊢
  rw [← p12]
  refine WL_val rfl rfl rfl (R_not rfl rfl) ?_
  refine WL_val rfl rfl rfl (R_move rfl rfl) ?_
  refine WL_val rfl rfl rfl (R_move rfl rfl) ?_
  refine WL_do rfl rfl rfl (D_call (gets_ok g12 (Nat.le_of_ble_eq_true rfl) (Nat.le_of_ble_eq_true rfl) 8 14 20 (Nat.le_of_ble_eq_true rfl) 3 (-1) (by kernel_rfl) (by kernel_rfl)) rfl rfl rfl rfl (pqZ)) ?_
  rintro _ _ ⟨_, ⟨m13, rfl, rfl, p13, g13⟩, rfl⟩
  rw [kq13_eq] at g13 ⊢
  rw [← p13]
  refine WL_val rfl rfl rfl (R_not rfl rfl) ?_
  refine WL_val rfl rfl rfl (R_pickF rfl rfl rfl) ?_
  refine WL_nil ?_
  refine WQ_code ?_
  refine WC_F rfl ?_
  refine WC_skip ?_
  refine WQ_code ?_
  refine WC_seq ?_
  refine WC_region ?_
  refine WL_val rfl rfl rfl (R_move rfl rfl) ?_
  refine WL_do rfl rfl rfl (D_call (pget_ok g13 (Nat.le_of_ble_eq_true rfl) (Nat.le_of_ble_eq_true rfl) 8 14 20 (Nat.le_of_ble_eq_true rfl)) rfl rfl rfl rfl (pqZ)) ?_
  rintro _ _ ⟨_, ⟨m14, rfl, rfl, p14, g14⟩, rfl⟩
  rw [kq14_eq] at g14 ⊢
  rw [← p14]
  rw [show getE_ kq13 8 14 20 = 11 from by kernel_rfl]
  refine WL_val rfl rfl rfl (R_move rfl rfl) ?_
  refine WL_val rfl rfl rfl (R_extract rfl rfl rfl) ?_
  refine WL_val rfl rfl rfl (R_extract rfl rfl rfl) ?_
  refine WL_do rfl rfl rfl (D_alloc rfl zv44) ?_
  rintro _ _ ⟨b2, rfl, rfl⟩
  refine WL_do0 rfl rfl (D_store (vs := [_, _, _]) rfl Try.sizeOf44 rfl rfl rfl rfl rfl (plZ) (by exact Nat.le_of_ble_eq_true rfl)) ?_
  rintro _ _ rfl
  refine WL_val rfl rfl rfl (R_assign rfl rfl) ?_
  refine WL_nil ?_
  refine WQ_code ?_
  refine WC_seq ?_
  refine WC_seq ?_
  refine WC_region ?_
  refine WL_val rfl rfl rfl (R_move rfl rfl) ?_
  refine WL_val rfl rfl rfl (R_neq rfl rfl rfl) ?_
  refine WL_val rfl rfl rfl (R_move rfl rfl) ?_
  refine WL_set (s := 97) (v := .bool false) rfl (by simp) ?_
  refine WL_val rfl rfl rfl (R_move rfl rfl) ?_
  refine WL_do rfl rfl rfl (D_call (padv_ok g14 (Nat.le_of_ble_eq_true rfl) 20 (Nat.le_of_ble_eq_true rfl) (of_decide_eq_true (by kernel_rfl))) rfl rfl rfl rfl (pqZ)) ?_
  rintro _ _ ⟨_, ⟨m15, rfl, rfl, p15, g15⟩, rfl⟩
  rw [kq15_eq] at g15 ⊢
  rw [← p15]
  rw [show kq14.may true 20 = 0 from by kernel_rfl]
  refine WL_val rfl rfl rfl (R_neq rfl rfl rfl) ?_
  refine WL_val rfl rfl rfl (R_pickF rfl rfl rfl) ?_
  refine WL_val rfl rfl rfl (R_move rfl rfl) ?_
  refine WL_set (s := 102) (v := .bool false) rfl (by simp) ?_
  refine WL_val rfl rfl rfl (R_move rfl rfl) ?_
  refine WL_do rfl rfl rfl (D_call (tells_ok g15 4 (8) (-1) rfl) rfl rfl rfl rfl (pqZ)) ?_
  rintro _ _ ⟨_, ⟨m16, rfl, rfl, p16, g16⟩, rfl⟩
  rw [kq16_eq] at g16 ⊢
  rw [← p16]
  refine WL_val rfl rfl rfl (R_not rfl rfl) ?_
  refine WL_val rfl rfl rfl (R_pickF rfl rfl rfl) ?_
  refine WL_nil ?_
  refine WQ_code ?_
  refine WC_F rfl ?_
  refine WC_skip ?_
  refine WQ_code ?_
  refine WC_seq ?_
  refine WC_region ?_
  refine WL_val rfl rfl rfl (R_move rfl rfl) ?_
  refine WL_do rfl rfl rfl (D_call (gets_ok g16 (Nat.le_of_ble_eq_true rfl) (Nat.le_of_ble_eq_true rfl) 9 20 30 (Nat.le_of_ble_eq_true rfl) 3 (-1) (by kernel_rfl) (by kernel_rfl)) rfl rfl rfl rfl (pqZ)) ?_
  rintro _ _ ⟨_, ⟨m17, rfl, rfl, p17, g17⟩, rfl⟩
  rw [kq17_eq] at g17 ⊢
  rw [← p17]
  refine WL_val rfl rfl rfl (R_move rfl rfl) ?_
  refine WL_val rfl rfl rfl (R_move rfl rfl) ?_
  refine WL_do rfl rfl rfl (D_call (pdialed_ok g17 (Nat.le_of_ble_eq_true rfl) 0 false 21 (Nat.le_of_ble_eq_true rfl)) rfl rfl rfl rfl (pqZ)) ?_
  rintro _ _ ⟨_, ⟨m18, rfl, rfl, p18, g18⟩, rfl⟩
  rw [kq18_eq] at g18 ⊢
  rw [← p18]
  rw [show kq17.inE 0 1 21 = 0 from by kernel_rfl]
  refine WL_val rfl rfl rfl (R_eql rfl rfl rfl) ?_
  refine WL_val rfl rfl rfl (R_pickT rfl rfl rfl) ?_
  refine WL_val rfl rfl rfl (R_move rfl rfl) ?_
  refine WL_set (s := 114) (v := .bool true) rfl (by simp) ?_
  refine WL_val rfl rfl rfl (R_move rfl rfl) ?_
  refine WL_do rfl rfl rfl (D_call (tells_ok g18 2 (9) (0) rfl) rfl rfl rfl rfl (pqZ)) ?_
  rintro _ _ ⟨_, ⟨m19, rfl, rfl, p19, g19⟩, rfl⟩
  rw [kq19_eq] at g19 ⊢
  rw [← p19]
  refine WL_val rfl rfl rfl (R_pickT rfl rfl rfl) ?_
  refine WL_val rfl rfl rfl (R_move rfl rfl) ?_
  refine WL_val rfl rfl rfl (R_move rfl rfl) ?_
  refine WL_do rfl rfl rfl (D_call (pput_ok g19 (Nat.le_of_ble_eq_true rfl) 0 true 21 (Nat.le_of_ble_eq_true rfl)) rfl rfl rfl rfl (pqZ)) ?_
  rintro _ _ ⟨_, ⟨m20, rfl, rfl, p20, g20⟩, rfl⟩
  rw [kq20_eq] at g20 ⊢
  rw [← p20]
  rw [show kq19.inE 0 2 21 = 9 from by kernel_rfl]
  refine WL_val rfl rfl rfl (R_eql rfl rfl rfl) ?_
  refine WL_val rfl rfl rfl (R_pickT rfl rfl rfl) ?_
  refine WL_val rfl rfl rfl (R_assign rfl rfl) ?_
  refine WL_nil ?_
  refine WQ_code ?_
  refine WC_ret ?_
  refine WQ_ret rfl rfl (.cons (.tmp rfl) .nil) rfl (by
      exact ⟨congrArg Value.bool (decide_eq_true rfl), rfl⟩) (pqZ)
end Go.Proofs.Yteofigbgdbpjgaa
end
section
set_option linter.unusedVariables false
set_option maxRecDepth 20000
set_option maxHeartbeats 8000000
namespace Go.Proofs.Yteofigbgdbpjgaa
theorem new_ro (op most keep : Nat) : rsOf (PS.new op most keep) = ⟨op, most, keep, 0, [], [], []⟩ := by
  have h : rcF 0 (List.replicate 64 (⟨0, 0, 0⟩ : Cn)) = [] := by kernel_rfl
  unfold rsOf PS.new
  dsimp only
  rw [h]; rfl
abbrev mm0 : MM := ⟨none, 0, [], none, 0, [], none, 0, 0, [], []⟩
theorem mm0_is {op most keep : Nat} (ho : op ≤ 64) : MIs mm0 ⟨op, most, keep, 0, [], [], []⟩ := ⟨Own.empty 4, Own.empty 2, OwnS.empty 3, Nat.zero_le _, Nat.zero_le _, Nat.zero_le _, ho, fun _ => rfl⟩
structure PlW where
  k : Nat
  m : PM
  s : PS
  M : MM
  r : RS
theorem malike_ok {m : PM} {M : MM} {s : PS} {r : RS} (h : PIs m s) (e : rsOf s = r) (hM : MIs M r) : Spec Try.prog 21 [ptrP m.p, mdV M r] (mdH M r ++ poH m s) (fun v H' => v = .bool true ∧ H' = mdH M r ++ poH m s) := by
  have r1 : r.cnt 1 = s.cnt 1 := by rw [← e]; exact ro_cnt (by decide)
  have r2 : r.cnt 2 = s.cnt 2 := by rw [← e]; exact ro_cnt (by decide)
  have r3 : r.cnt 3 = s.cnt 3 := by rw [← e]; exact ro_cnt (by decide)
  have rq : r.Q.length = s.Q.length := by rw [← e]; exact List.length_map _
  refine Spec.of (E := [(0, ptrP m.p), (1, mdV M r)]) Try.func21 rfl (by kernel_rfl) Try.ntmps21 rfl rfl (fun w => ?_)
  refine WC_seq ?_
  refine WC_region ?_
  refine WL_do rfl rfl rfl (D_box (cs := [_, _, _, _, _, _, _]) rfl rfl rfl) ?_
  rintro _ _ ⟨b1, rfl, rfl⟩
  refine WL_val rfl rfl rfl (R_assign rfl rfl) ?_
  refine WL_nil ?_
  refine WQ_code ?_
  refine WC_seq ?_
  refine WC_draw _ [(0, true), (1, true), (2, true), (3, true), (4, true), (5, true), (6, true), (7, true), (8, true), (9, true), (10, true), (11, true), (12, true), (13, true), (14, true), (15, true), (16, true), (17, true)] followsMixed rfl rfl (by kernel_rfl) .all ?_
  refine WM_val rfl rfl rfl rfl (R_move rfl rfl) ?_
  refine WM_val rfl rfl rfl rfl (R_ptrNeNil rfl Try.underlying23 rfl) ?_
  refine WM_val rfl rfl rfl rfl (R_move rfl rfl) ?_
  refine WM_val rfl rfl rfl rfl (R_move rfl rfl) ?_
  refine WM_call rfl (Spec.quiet (pcounts_ok h)) rfl rfl rfl rfl rfl rfl rfl (pqZ) ?_
  refine WM_val rfl rfl rfl rfl (R_loadA (vs := [_, _, _, _, _, _, _]) rfl ag58 rfl (mmZ) rfl (atZ)) ?_
  refine WM_call rfl (Spec.quiet (mcount_ok hM 2)) rfl rfl rfl rfl rfl rfl rfl (pqZ) ?_
  refine WM_val rfl rfl rfl rfl (R_loadA (vs := [_, _, _, _, _, _, _]) rfl ag58 rfl (mmZ) rfl (atZ)) ?_
  refine WM_call rfl (Spec.quiet (mcount_ok hM 1)) rfl rfl rfl rfl rfl rfl rfl (pqZ) ?_
  refine WM_val rfl rfl rfl rfl (R_loadA (vs := [_, _, _, _, _, _, _]) rfl ag58 rfl (mmZ) rfl (atZ)) ?_
  refine WM_call rfl (Spec.quiet (mcount_ok hM 3)) rfl rfl rfl rfl rfl rfl rfl (pqZ) ?_
  refine WM_val rfl rfl rfl rfl (R_fieldAddr rfl fa58_5 rfl) ?_
  refine WM_val rfl rfl rfl rfl (R_load rfl sc55 rfl (mmZ) rfl) ?_
  refine WM_val rfl rfl rfl rfl (R_len rfl Try.underlying55 rfl) ?_
  refine WM_val rfl rfl rfl rfl (R_build rfl zv33 pl33 rfl rfl) ?_
  refine WM_val rfl rfl rfl rfl (R_seq33 rfl rfl rfl rfl) ?_
  refine WM_set (s := 20) (v := .bool true) rfl (by simp [r1, r2, r3, rq]) ?_
  refine WM_val rfl rfl rfl rfl (R_pickT rfl rfl rfl) ?_
  refine WM_val rfl rfl rfl rfl (R_assign rfl rfl) ?_
  refine WM_nil ?_
  refine WQ_code ?_
  refine WC_ret ?_
  refine WQ_ret rfl rfl (.cons (.tmp rfl) .nil) rfl (by
      exact ⟨rfl, rfl⟩) (pqZ)
theorem mstep_e {m : PM} {M : MM} {s : PS} {r : RS} (h : PIs m s) (e : rsOf s = r) (hM : MIs M r) (hph : PH s) (hwt : wt s ≤ 40) (hE : s.E.length ≤ 9000) (hn : s.n ≤ 40) (a : Ac46) (hb : a.now ≤ 18446744073709551615) (hd : a.dl ≤ 18446744073709551615) :
    Spec Try.prog 22 [ptrP m.p, mdV M r, .agg (encA46 a).toArray] (mdH M r ++ poH m s) (fun v H' => ∃ m' s' M', v = .tuple #[ptrP m'.p, mdV M' (rsOf s'), .bool true] ∧ H' = mdH M' (rsOf s') ++ poH m' s' ∧ PIs m' s' ∧ MIs M' (rsOf s') ∧ StR s s') := by
  subst e
  exact mstep_ok h hM hph hwt hE hn a hb hd
theorem nx_nil {s : PS} {x : Pv} {q : List Pv} (hE : s.E = x :: q) : s.nx.E.length < s.E.length ∧ rsOf s.nx = { rsOf s with E := q } := by
  unfold PS.nx
  rw [hE]
  exact ⟨Nat.lt_succ_self _, rfl⟩
theorem plays_bad (op most : Int) (keep : Nat) (oa : Option Addr) (n c : Nat) (h : 40 < n ∨ vB op most keep = false) : Spec Try.prog 5 [.int .i64 op, .int .i64 most, .int .u64 (keep : Int), .slice oa n c] [] (fun r H' => r = .bool true ∧ H' = []) := by
  have hvf : ¬ 40 < n → vB op most keep = false := fun e => by rcases h with h | h; exact absurd h e; exact h
  refine Spec.of (E := [(0, .int .i64 op), (1, .int .i64 most), (2, .int .u64 (keep : Int)), (3, .slice oa n c)]) Try.func5 rfl (by kernel_rfl) Try.ntmps5 rfl rfl (fun w => ?_)
  refine WC_seq ?_
  refine WC_region ?_
  refine WL_val rfl rfl rfl (R_assign rfl rfl) ?_
  refine WL_nil ?_
  refine WQ_code ?_
  refine WC_seq ?_
  refine WC_seq ?_
  refine WC_region ?_
  refine WL_val rfl rfl rfl (R_move rfl rfl) ?_
  refine WL_val rfl rfl rfl (R_len rfl Try.underlying37 rfl) ?_
  refine WL_val rfl rfl rfl (R_gtr rfl rfl rfl) ?_
  refine WL_nil ?_
  refine WQ_code ?_
  refine WC_dec rfl (fun c1 => ?_) (fun c1 => ?_)
  · refine WC_seq ?_
    refine WC_region ?_
    refine WL_do rfl rfl rfl (D_call (known_ok) rfl rfl rfl rfl (pqZ)) ?_
    rintro _ _ ⟨_, ⟨rfl, rfl⟩, rfl⟩
    refine WL_val rfl rfl rfl (R_assign rfl rfl) ?_
    refine WL_nil ?_
    refine WQ_code ?_
    refine WC_ret ?_
    refine WQ_ret rfl rfl (.cons (.tmp rfl) .nil) rfl (by
        exact ⟨rfl, rfl⟩) (pqZ)
  · have hv := hvf (by omega)
    have hbad : op < 1 ∨ 64 < op ∨ most < 0 ∨ 64 < most ∨ keep < 1 := by have := of_decide_eq_false hv; omega
    refine WC_skip ?_
    refine WQ_code ?_
    refine WC_seq ?_
    refine WC_region ?_
    refine WL_val rfl rfl rfl (R_move rfl rfl) ?_
    refine WL_val rfl rfl rfl (R_move rfl rfl) ?_
    refine WL_val rfl rfl rfl (R_move rfl rfl) ?_
    refine WL_do rfl rfl rfl (D_call (pnew_bad op most keep hbad) rfl rfl rfl rfl (pqZ)) ?_
    rintro _ _ ⟨_, ⟨rfl, rfl⟩, rfl⟩
    refine WL_val rfl rfl rfl (R_move rfl rfl) ?_
    refine WL_val rfl rfl rfl (R_extract rfl rfl rfl) ?_
    refine WL_val rfl rfl rfl (R_extract rfl rfl rfl) ?_
    refine WL_val rfl rfl rfl (R_assign rfl rfl) ?_
    refine WL_val rfl rfl rfl (R_assign rfl rfl) ?_
    refine WL_nil ?_
    refine WQ_code ?_
    refine WC_seq ?_
    refine WC_seq ?_
    refine WC_region ?_
    refine WL_val rfl rfl rfl (R_move rfl rfl) ?_
    refine WL_val rfl rfl rfl (R_move rfl rfl) ?_
    refine WL_val rfl rfl rfl (R_move rfl rfl) ?_
    refine WL_do rfl rfl rfl (D_call (valid_ok op most keep) rfl rfl rfl rfl (pqZ)) ?_
    rintro _ _ ⟨_, ⟨rfl, rfl⟩, rfl⟩
    refine WL_val rfl rfl rfl (R_not rfl rfl) ?_
    refine WL_set (s := 33) (v := .bool true) rfl (by simp [hv]) ?_
    refine WL_nil ?_
    refine WQ_code ?_
    refine WC_T rfl ?_
    refine WC_seq ?_
    refine WC_region ?_
    refine WL_val rfl rfl rfl (R_move rfl rfl) ?_
    refine WL_val rfl rfl rfl (R_ptrEqNil rfl Try.underlying23 rfl) ?_
    refine WL_val rfl rfl rfl (R_move rfl rfl) ?_
    refine WL_val rfl rfl rfl (R_move rfl rfl) ?_
    refine WL_val rfl rfl rfl (R_eql rfl rfl rfl) ?_
    refine WL_set (s := 38) (v := .bool true) rfl (by simp) ?_
    refine WL_val rfl rfl rfl (R_pickT rfl rfl rfl) ?_
    refine WL_val rfl rfl rfl (R_move rfl rfl) ?_
    refine WL_do rfl rfl rfl (D_call (known_ok) rfl rfl rfl rfl (pqZ)) ?_
    rintro _ _ ⟨_, ⟨rfl, rfl⟩, rfl⟩
    refine WL_val rfl rfl rfl (R_pickT rfl rfl rfl) ?_
    refine WL_val rfl rfl rfl (R_assign rfl rfl) ?_
    refine WL_nil ?_
    refine WQ_code ?_
    refine WC_ret ?_
    refine WQ_ret rfl rfl (.cons (.tmp rfl) .nil) rfl (by
        exact ⟨rfl, rfl⟩) (pqZ)
theorem plays_ok (op most keep : Nat) (ho : 1 ≤ op ∧ op ≤ 64) (hmo : most ≤ 64) (hkp : 1 ≤ keep ∧ keep ≤ 18446744073709551615) (l : List Ac46) (hl : l.length ≤ 40) (hG : ∀ a ∈ l, a.now ≤ 18446744073709551615 ∧ a.dl ≤ 18446744073709551615) (oa : Option Addr) (ent : Ent) (c : Nat) (ha : Arg oa ent 5 encA46 l) : Spec Try.prog 5 [.int .i64 (op : Int), .int .i64 (most : Int), .int .u64 (keep : Int), .slice oa l.length c] [ent] (fun r H' => r = .bool true ∧ H' = [ent]) := by
  have hvb : vB (op : Int) (most : Int) keep = true := decide_eq_true (by omega)
  refine Spec.of (E := [(0, .int .i64 (op : Int)), (1, .int .i64 (most : Int)), (2, .int .u64 (keep : Int)), (3, .slice oa l.length c)]) Try.func5 rfl (by kernel_rfl) Try.ntmps5 rfl rfl (fun w => ?_)
  refine WC_seq ?_
  refine WC_region ?_
  refine WL_val rfl rfl rfl (R_assign rfl rfl) ?_
  refine WL_nil ?_
  refine WQ_code ?_
  refine WC_seq ?_
  refine WC_seq ?_
  refine WC_region ?_
  refine WL_val rfl rfl rfl (R_move rfl rfl) ?_
  refine WL_val rfl rfl rfl (R_len rfl Try.underlying37 rfl) ?_
  refine WL_val rfl rfl rfl (R_gtr rfl rfl rfl) ?_
  refine WL_nil ?_
  refine WQ_code ?_
  refine WC_dF rfl (by omega) ?_
  refine WC_skip ?_
  refine WQ_code ?_
  refine WC_seq ?_
  refine WC_region ?_
  refine WL_val rfl rfl rfl (R_move rfl rfl) ?_
  refine WL_val rfl rfl rfl (R_move rfl rfl) ?_
  refine WL_val rfl rfl rfl (R_move rfl rfl) ?_
  refine WL_do rfl rfl rfl (D_call (pnew_ok op most keep ho hmo hkp) rfl rfl rfl rfl (pqZ)) ?_
  rintro _ _ ⟨_, ⟨m0, rfl, rfl, g0⟩, rfl⟩
  refine WL_val rfl rfl rfl (R_move rfl rfl) ?_
  refine WL_val rfl rfl rfl (R_extract rfl rfl rfl) ?_
  refine WL_val rfl rfl rfl (R_extract rfl rfl rfl) ?_
  refine WL_val rfl rfl rfl (R_assign rfl rfl) ?_
  refine WL_val rfl rfl rfl (R_assign rfl rfl) ?_
  refine WL_nil ?_
  refine WQ_code ?_
  refine WC_seq ?_
  refine WC_seq ?_
  refine WC_region ?_
  refine WL_val rfl rfl rfl (R_move rfl rfl) ?_
  refine WL_val rfl rfl rfl (R_move rfl rfl) ?_
  refine WL_val rfl rfl rfl (R_move rfl rfl) ?_
  refine WL_do rfl rfl rfl (D_call (valid_ok (op : Int) (most : Int) keep) rfl rfl rfl rfl (pqZ)) ?_
  rintro _ _ ⟨_, ⟨rfl, rfl⟩, rfl⟩
  refine WL_val rfl rfl rfl (R_not rfl rfl) ?_
  refine WL_set (s := 33) (v := .bool false) rfl (by simp [hvb]) ?_
  refine WL_nil ?_
  refine WQ_code ?_
  refine WC_F rfl ?_
  refine WC_skip ?_
  refine WQ_code ?_
  refine WC_seq ?_
  refine WC_region ?_
  refine WL_val rfl rfl rfl (R_move rfl rfl) ?_
  refine WL_val rfl rfl rfl (R_move rfl rfl) ?_
  refine WL_val rfl rfl rfl (R_move rfl rfl) ?_
  refine WL_val rfl rfl rfl (R_build rfl zv58 pl58 rfl rfl) ?_
  refine WL_do rfl rfl rfl (D_alloc rfl zv58) ?_
  rintro _ _ ⟨b1, rfl, rfl⟩
  refine WL_do0 rfl rfl (D_store (vs := [_, _, _, _, _, _, _]) rfl Try.sizeOf58 rfl rfl rfl rfl rfl (plZ) (by exact Nat.le_of_ble_eq_true rfl)) ?_
  rintro _ _ rfl
  refine WL_nil ?_
  refine WQ_code ?_
  refine WC_seq ?_
  refine WC_seq ?_
  refine WC_region ?_
  refine WL_val rfl rfl rfl (R_move rfl rfl) ?_
  refine WL_val rfl rfl rfl (R_neq rfl rfl rfl) ?_
  refine WL_set (s := 48) (v := .bool false) rfl (by simp) ?_
  refine WL_val rfl rfl rfl (R_move rfl rfl) ?_
  refine WL_val rfl rfl rfl (R_move rfl rfl) ?_
  refine WL_none 44 ?_
  refine WL_none 144 ?_
  refine WL_none 139 ?_
  refine WL_val rfl rfl rfl (R_loadA (vs := [_, _, _, _, _, _, _]) rfl ag58 rfl (mmZ) rfl (atZ)) ?_
  refine WL_do rfl rfl rfl (D_call (malike_ok g0 (new_ro op most keep) (mm0_is ho.2)) rfl rfl rfl rfl (pqZ)) ?_
  rintro _ _ ⟨_, ⟨rfl, rfl⟩, rfl⟩
  refine WL_val rfl rfl rfl (R_not rfl rfl) ?_
  refine WL_val rfl rfl rfl (R_pickF rfl rfl rfl) ?_
  refine WL_nil ?_
  refine WQ_code ?_
  refine WC_F rfl ?_
  refine WC_skip ?_
  refine WQ_code ?_
  refine WC_seq ?_
  refine WC_seq ?_
  refine WC_region ?_
  refine WL_val rfl rfl rfl (R_assign rfl rfl) ?_
  refine WL_nil ?_
  refine WQ_code ?_
  refine WC_block ?_
  refine WC_loopF (G := PlW) [8, 9, 12, 13, 14, 15, 55, 56, 57, 58, 59, 60, 61, 62, 63, 64, 65, 66, 67, 68, 69, 70, 71, 72, 73, 74, 75, 76, 77, 78, 79, 80, 81] (fun y => y.k ≤ l.length ∧ PIs y.m y.s ∧ rsOf y.s = y.r ∧ MIs y.M y.r ∧ PH y.s ∧ wt y.s ≤ y.k ∧ y.s.n ≤ y.k ∧ y.s.E.length ≤ 168 * y.k) (fun y => [(12, .int .i64 (y.k : Int)), (9, ptrP y.m.p)]) (fun y => [⟨some b1, cl (mdL y.M y.r) 58⟩, mdC y.M y.r, mdQ y.M y.r, mdE y.M y.r] ++ poH y.m y.s) (fun y => l.length - y.k) (⟨0, m0, PS.new op most keep, mm0, ⟨op, most, keep, 0, [], [], []⟩⟩) (⟨Nat.zero_le _, g0, new_ro op most keep, mm0_is ho.2, ph_new ho hmo, Nat.le_of_eq (wt_new _ _ _), Nat.le_refl _, Nat.zero_le _⟩) leZ (pqZ) ?_
  rintro y ⟨hyk, gy, hye, gM, hph, hyw, hyn, hyE⟩
  have hyq := q_wt y.s
  refine WC_seq ?_
  refine WC_seq ?_
  refine WC_region ?_
  refine WL_val rfl rfl rfl (R_move rfl rfl) ?_
  refine WL_val rfl rfl rfl (R_move rfl rfl) ?_
  refine WL_val rfl rfl rfl (R_len rfl Try.underlying37 rfl) ?_
  refine WL_val rfl rfl rfl (R_lss rfl rfl rfl) ?_
  refine WL_nil ?_
  refine WQ_code ?_
  refine WC_dec rfl (fun c1 => ?_) (fun c1 => ?_)
  · obtain ⟨a, hak⟩ := getE (T := l) (i := y.k) (by omega)
    have hba := hG a (List.mem_of_getElem? hak)
    obtain ⟨lb, lk, lcs, le, lfr, rfl, rfl, hat⟩ := ha.some (by omega)
    refine WC_skip ?_
    refine WQ_code ?_
    refine WC_seq ?_
    refine WC_block ?_
    refine WC_seq ?_
    refine WC_drawBR (mdH y.M y.r ++ poH y.m y.s) [(0, .q), (1, .q), (2, .q), (3, .q), (4, .q), (5, .q), (6, .n [11]), (7, .q), (8, .q), (9, .q), (10, .q), (11, .b []), (12, .q), (13, .n []), (14, .q)] followsMixed rfl rfl (by kernel_rfl) (pqZ) ?_
    refine WB_val rfl rfl rfl rfl (R_move rfl rfl) ?_
    refine WB_val rfl rfl rfl rfl (R_loadA (vs := [_, _, _, _, _, _, _]) rfl ag58 rfl (mmZ) rfl (atZ)) ?_
    refine WB_val rfl rfl rfl rfl (R_move rfl rfl) ?_
    refine WB_val rfl rfl rfl rfl (R_move rfl rfl) ?_
    refine WB_val rfl rfl rfl rfl (R_indexAddrN rfl Try.underlying37 Try.sizeOf41 rfl rfl (by omega)) ?_
    refine WB_val rfl rfl rfl rfl (R_loadAG (vs := encA46 a) rfl ag41 rfl (mmZ) rfl (hat y.k a hak)) ?_
    refine WB_do rfl rfl rfl rfl (.cons rfl rfl (B_alloc rfl zv58) .nil) (fun _ => D_call (mstep_e gy hye gM hph (by omega) (by omega) (by omega) a hba.1 hba.2) rfl rfl rfl rfl (pqZ)) ?_
    rintro _ _ ⟨_, ⟨m2, s2, M2, rfl, rfl, h2, hM2, hst⟩, rfl⟩
    refine ⟨⟨_, pqZ⟩, ?_⟩
    refine WB_val rfl rfl rfl rfl (R_move rfl rfl) ?_
    refine WB_val rfl rfl rfl rfl (R_extract rfl rfl rfl) ?_
    refine WB_val rfl rfl rfl rfl (R_extract rfl rfl rfl) ?_
    refine WB_val rfl rfl rfl rfl (R_extract rfl rfl rfl) ?_
    refine WB_birth rfl rfl rfl rfl .nil (B_alloc rfl zv58) (fun b2 => ?_)
    refine WB_val rfl rfl rfl rfl (R_assign rfl rfl) ?_
    refine WB_do0 rfl rfl rfl .nil (fun _ => D_store (vs := [_, _, _, _, _, _, _]) rfl Try.sizeOf58 rfl rfl rfl rfl rfl (plZ) (by exact Nat.le_of_ble_eq_true rfl)) ?_
    rintro _ _ rfl
    refine ⟨⟨_, pqZ⟩, ?_⟩
    refine WB_val rfl rfl rfl rfl (R_assign rfl rfl) ?_
    refine WB_nil ?_
    refine WQ_code ?_
    refine WC_seq ?_
    refine WC_seq ?_
    refine WC_region ?_
    refine WL_val rfl rfl rfl (R_move rfl rfl) ?_
    refine WL_val rfl rfl rfl (R_not rfl rfl) ?_
    refine WL_val rfl rfl rfl (R_move rfl rfl) ?_
    refine WL_val rfl rfl rfl (R_move rfl rfl) ?_
    refine WL_val rfl rfl rfl (R_loadA (vs := [_, _, _, _, _, _, _]) rfl ag58 rfl (mmZ) rfl (atZ)) ?_
    refine WL_do rfl rfl rfl (D_call (malike_ok h2 rfl hM2) rfl rfl rfl rfl (pqZ)) ?_
    rintro _ _ ⟨_, ⟨rfl, rfl⟩, rfl⟩
    refine WL_val rfl rfl rfl (R_not rfl rfl) ?_
    refine WL_val rfl rfl rfl (R_pickF rfl rfl rfl) ?_
    refine WL_nil ?_
    refine WQ_code ?_
    refine WC_F rfl ?_
    refine WC_skip ?_
    refine WQ_code ?_
    refine WC_drawR [⟨some b1, _⟩] [(0, true), (1, true), (2, true), (3, false)] followsMixed rfl rfl (by kernel_rfl) (pqZ) ?_
    refine WM_val rfl rfl rfl rfl (R_move rfl rfl) ?_
    refine WM_val rfl rfl rfl rfl (R_loadA (vs := [_, _, _, _, _, _, _]) rfl ag58 rfl (mmZ) rfl (atZ)) ?_
    refine WM_val rfl rfl rfl rfl (R_assign rfl rfl) ?_
    refine WM_do0 rfl rfl rfl (D_store (vs := [_, _, _, _, _, _, _]) rfl Try.sizeOf58 rfl rfl rfl rfl rfl (plZ) (by exact Nat.le_of_ble_eq_true rfl)) ?_
    rintro _ _ rfl
    refine ⟨⟨_, pqZ⟩, ?_⟩
    refine WM_nil ?_
    refine WQ_code ?_
    refine WC_region ?_
    refine WL_val rfl rfl rfl (R_move rfl rfl) ?_
    refine WL_val rfl rfl rfl (R_add rfl rfl rfl (by omega)) ?_
    refine WL_val rfl rfl rfl (R_assign rfl rfl) ?_
    refine WL_nil ?_
    refine WQ_nextF (⟨y.k + 1, m2, s2, M2, rsOf s2⟩) (⟨by dsimp only; omega, h2, rfl, hM2, hst.ph, by have := hst.w; dsimp only; omega, by have := hst.n; dsimp only; omega, by have := hst.len; dsimp only; omega⟩) (by dsimp only; omega) leZ (psZ) rfl (pqZ)
  · refine WC_exit ?_
    refine WQ_code ?_
    refine WC_seq ?_
    refine WC_block ?_
    refine WC_loopF (G := PlW) [8, 16, 17, 82, 83, 84, 85, 86, 87, 88, 89, 90, 91, 92, 93, 94, 95, 96, 97, 98, 99, 100, 101, 102, 103, 104] (fun z => PIs z.m z.s ∧ rsOf z.s = z.r ∧ MIs z.M z.r ∧ z.m.p = y.m.p) (fun z => []) (fun z => [⟨some b1, cl (mdL z.M z.r) 58⟩, mdC z.M z.r, mdQ z.M z.r, mdE z.M z.r] ++ poH z.m z.s) (fun z => z.s.E.length) (⟨0, y.m, y.s, y.M, y.r⟩) (⟨gy, hye, gM, rfl⟩) leZ (pqZ) ?_
    rintro z ⟨gz, hze, gzM, hzp⟩
    rw [← hzp]
    refine WC_seq ?_
    refine WC_seq ?_
    refine WC_region ?_
    refine WL_val rfl rfl rfl (R_fieldAddr rfl fa58_6 rfl) ?_
    refine WL_val rfl rfl rfl (R_load rfl sc56 rfl (mmZ) rfl) ?_
    refine WL_val rfl rfl rfl (R_len rfl Try.underlying56 rfl) ?_
    refine WL_val rfl rfl rfl (R_gtr rfl rfl rfl) ?_
    refine WL_nil ?_
    refine WQ_code ?_
    refine WC_dec rfl (fun c2 => ?_) (fun c2 => ?_)
    · have hrE : z.r.E = z.s.E := by rw [← hze]; rfl
      obtain ⟨x9, q9, hzE⟩ : ∃ x q, z.s.E = x :: q := by cases h9 : z.s.E with | nil => rw [hrE, h9] at c2; exact absurd c2 (by decide) | cons x q => exact ⟨x, q, rfl⟩
      obtain ⟨we, hwe⟩ := gzM.e.some_of (by rw [hrE, hzE]; exact Nat.succ_pos _)
      have hlen : z.r.E.length = q9.length + 1 := by rw [hrE, hzE]; rfl
      have hnx := nx_nil hzE
      rw [hze] at hnx
      refine WC_skip ?_
      refine WQ_code ?_
      refine WC_block ?_
      refine WC_seq ?_
      refine WC_region ?_
      refine WL_val rfl rfl rfl (R_move rfl rfl) ?_
      refine WL_do rfl rfl rfl (D_call (pnext_some gz hzE) rfl rfl rfl rfl (pqZ)) ?_
      rintro _ _ ⟨_, ⟨m1, rfl, rfl, hp1, h1⟩, rfl⟩
      rw [← hp1]
      refine WL_val rfl rfl rfl (R_move rfl rfl) ?_
      refine WL_val rfl rfl rfl (R_extract rfl rfl rfl) ?_
      refine WL_val rfl rfl rfl (R_extract rfl rfl rfl) ?_
      refine WL_set (s := 90) (v := .bool true) rfl (by rfl) ?_
      refine WL_do rfl rfl rfl (D_alloc rfl zv44) ?_
      rintro _ _ ⟨b3, rfl, rfl⟩
      refine WL_do0 rfl rfl (D_store (vs := [_, _, _]) rfl Try.sizeOf44 rfl rfl rfl rfl rfl (plZ) (by exact Nat.le_of_ble_eq_true rfl)) ?_
      rintro _ _ rfl
      refine WL_val rfl rfl rfl (R_assign rfl rfl) ?_
      refine WL_nil ?_
      refine WQ_code ?_
      refine WC_seq ?_
      refine WC_seq ?_
      refine WC_draw _ [(0, true), (1, true), (2, true), (3, true), (4, true), (5, true), (6, true), (7, true), (8, true), (9, true)] followsMixed rfl rfl (by kernel_rfl) .all ?_
      refine WM_val rfl rfl rfl rfl (R_move rfl rfl) ?_
      refine WM_val rfl rfl rfl rfl (R_not rfl rfl) ?_
      refine WM_val rfl rfl rfl rfl (R_move rfl rfl) ?_
      refine WM_val rfl rfl rfl rfl (R_loadA (vs := [_, _, _]) rfl ag44 rfl (mmZ) rfl (atZ)) ?_
      refine WM_val rfl rfl rfl rfl (R_fieldAddr rfl fa58_6 rfl) ?_
      refine WM_val rfl rfl rfl rfl (R_load rfl sc56 rfl (mmZ) rfl) ?_
      refine WM_val rfl rfl rfl rfl (R_indexS (i := 0) hwe rfl Try.underlying56 Try.sizeOf44 rfl rfl (by omega)) ?_
      refine WM_val rfl rfl rfl rfl (R_loadAO (vs := [.int .i64 x9.k, .int .i64 x9.who, .int .i64 x9.c]) hwe rfl ag44 rfl (mmZ) rfl (gzM.e.atE (i := 0) (x := x9) (by rw [hrE, hzE]; rfl) (by omega))) ?_
      refine WM_val rfl rfl rfl rfl (R_sne44 rfl rfl rfl rfl) ?_
      refine WM_set (s := 99) (v := .bool false) rfl (by simp) ?_
      refine WM_val rfl rfl rfl rfl (R_pickF rfl rfl rfl) ?_
      refine WM_nil ?_
      refine WQ_code ?_
      refine WC_F rfl ?_
      refine WC_skip ?_
      refine WQ_code ?_
      refine WC_region ?_
      refine WL_val rfl rfl rfl (R_fieldAddr rfl fa58_6 rfl) ?_
      refine WL_val rfl rfl rfl (R_load rfl sc56 rfl (mmZ) rfl) ?_
      refine WL_val rfl rfl rfl (R_cut1 (m := q9.length) hwe rfl Try.underlying56 Try.sizeOf44 rfl rfl hlen) ?_
      refine WL_val rfl rfl rfl (R_fieldAddr rfl fa58_6 rfl) ?_
      refine WL_do0 rfl rfl (D_store (vs := [_]) rfl Try.sizeOf56 rfl rfl rfl rfl rfl (plZ) (by exact Nat.le_of_ble_eq_true rfl)) ?_
      rintro _ _ rfl
      refine WL_nil ?_
      rw [show mdE z.M z.r = (⟨z.M.eb, cl ((z.M.epre ++ encV x9) ++ (q9.flatMap encV ++ z.M.etl)) 44⟩ : Ent) from by show (⟨_, cl (z.M.epre ++ (z.r.E.flatMap encV ++ z.M.etl)) _⟩ : Ent) = _; rw [hrE, hzE]; simp]
      refine WQ_nextF (gg := z) (⟨0, m1, z.s.nx, { z.M with ek := if z.M.ec = 1 then z.M.ek else z.M.ek + 3, ec := z.M.ec - 1, epre := z.M.epre ++ encV x9 }, { z.r with E := q9 }⟩) (⟨h1, hnx.2, by rw [← hnx.2]; exact MIs.nx (by rw [hze]; exact gzM) hzE, by first | rfl | exact hp1 | exact hp1.trans hzp⟩) (hnx.1) leZ (psZ) rfl (pqZ)
    · refine WC_exit ?_
      refine WQ_code ?_
      refine WC_seq ?_
      refine WC_region ?_
      refine WL_do rfl rfl rfl (D_call (known_ok) rfl rfl rfl rfl (pqZ)) ?_
      rintro _ _ ⟨_, ⟨rfl, rfl⟩, rfl⟩
      refine WL_val rfl rfl rfl (R_assign rfl rfl) ?_
      refine WL_nil ?_
      refine WQ_code ?_
      refine WC_ret ?_
      refine WQ_ret rfl rfl (.cons (.tmp rfl) .nil) rfl (by
          exact ⟨rfl, rfl⟩) (pqZ)
end Go.Proofs.Yteofigbgdbpjgaa
end
