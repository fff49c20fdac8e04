/-
  Chapter 48 (balance), part Valid: contracts of functions that the laws call, each for the heap it names.
-/
import Derived.Test.YtiokpmgbabpikaaRows
import Derived.Test.YtiokpmgbabpikaaZSLOpt
import Derived.Test.YtiokpmgbabpikaaTab
import Derived.Test.YtiokpmgbabpikaaBalV
import Derived.Test.YtiokpmgbabpikaaZSLArg
set_option linter.unusedVariables false
set_option maxRecDepth 20000
set_option maxHeartbeats 2000000
namespace Go.Proofs.Ytiokpmgbabpikaa


abbrev VOk (k : Int) (W : List Int) (limit : Int) (op : Nat) : Prop := (1 ≤ k ∧ k ≤ 4) ∧ (1 ≤ W.length ∧ W.length ≤ 64) ∧ (∀ w ∈ W, 1 ≤ w ∧ w ≤ 100) ∧ OkR limit 1 op
theorem valid_ok (k : Int) (W : List Int) (oa : Option Addr) (c : Nat) (ent : Ent) (ha : Rd oa ent W) (limit : Int) (op : Nat) (hb : W.length ≤ 9223372036854775807) : Spec Try.prog 10 [.int .i64 k, .slice oa W.length c, .int .i64 limit, .int .u64 (op : Int)] [ent] (fun r H' => r = .bool (decide (VOk k W limit op)) ∧ H' = [ent]) := by
  refine Spec.of (E := [(0, .int .i64 k), (1, .slice oa W.length c), (2, .int .i64 limit), (3, .int .u64 (op : Int))]) Try.func10 rfl (by kernel_rfl) Try.ntmps10 rfl rfl (fun w => ?_)
  refine WC_seq ?_
  refine WC_region ?_
  refine WL_val rfl rfl rfl (R_assign rfl rfl) ?_
  refine WL_nil ?_
  refine WQ_code ?_
  refine WC_seq ?_
  refine WC_seq ?_
  refine WC_region ?_
  refine WL_val rfl rfl rfl (R_move rfl rfl) ?_
  refine WL_val rfl rfl rfl (R_lss rfl rfl rfl) ?_
  refine WL_val rfl rfl rfl (R_move rfl rfl) ?_
  refine WL_splitD (s := 12) rfl (fun c1 => ?_) (fun c1 => ?_)
  · refine WL_skip rfl rfl rfl ?_
    refine WL_skip rfl rfl rfl ?_
    refine WL_val rfl rfl rfl (R_pickT rfl rfl rfl) ?_
    refine WL_val rfl rfl rfl (R_move rfl rfl) ?_
    refine WL_skip rfl rfl rfl ?_
    refine WL_skip rfl rfl rfl ?_
    refine WL_skip rfl rfl rfl ?_
    refine WL_val rfl rfl rfl (R_pickT rfl rfl rfl) ?_
    refine WL_val rfl rfl rfl (R_move rfl rfl) ?_
    refine WL_skip rfl rfl rfl ?_
    refine WL_skip rfl rfl rfl ?_
    refine WL_skip rfl rfl rfl ?_
    refine WL_val rfl rfl rfl (R_pickT rfl rfl rfl) ?_
    refine WL_val rfl rfl rfl (R_move rfl rfl) ?_
    refine WL_skip rfl rfl rfl ?_
    refine WL_skip rfl rfl rfl ?_
    refine WL_val rfl rfl rfl (R_pickT rfl rfl rfl) ?_
    refine WL_val rfl rfl rfl (R_move rfl rfl) ?_
    refine WL_skip rfl rfl rfl ?_
    refine WL_skip rfl rfl rfl ?_
    refine WL_val rfl rfl rfl (R_pickT rfl rfl rfl) ?_
    refine WL_val rfl rfl rfl (R_move rfl rfl) ?_
    refine WL_skip rfl rfl rfl ?_
    refine WL_skip rfl rfl rfl ?_
    refine WL_val rfl rfl rfl (R_pickT rfl rfl rfl) ?_
    refine WL_val rfl rfl rfl (R_move rfl rfl) ?_
    refine WL_skip rfl rfl rfl ?_
    refine WL_skip rfl rfl rfl ?_
    refine WL_val rfl rfl rfl (R_pickT rfl rfl rfl) ?_
    refine WL_nil ?_
    refine WQ_code ?_
    refine WC_T rfl ?_
    refine WC_seq ?_
    refine WC_region ?_
    refine WL_val rfl rfl rfl (R_assign rfl rfl) ?_
    refine WL_nil ?_
    refine WQ_code ?_
    refine WC_ret ?_
    refine WQ_ret rfl rfl (.cons (.tmp rfl) .nil) rfl (by
        first | exact ⟨congrArg Value.bool (decide_eq_true (⟨by omega, by omega, hall, by unfold OkR; omega⟩ : VOk k W limit op)).symm, rfl⟩ | exact ⟨congrArg Value.bool (decide_eq_false (fun h : VOk k W limit op => by obtain ⟨h1, h2, h3, h4⟩ := h; unfold OkR at h4; omega)).symm, rfl⟩ | exact ⟨congrArg Value.bool (decide_eq_false (fun h : VOk k W limit op => by have := h.2.2.1 w9 hwm; omega)).symm, rfl⟩) (pqY)
  · refine WL_val rfl rfl rfl (R_move rfl rfl) ?_
    refine WL_val rfl rfl rfl (R_gtr rfl rfl rfl) ?_
    refine WL_val rfl rfl rfl (R_pickF rfl rfl rfl) ?_
    refine WL_val rfl rfl rfl (R_move rfl rfl) ?_
    refine WL_splitD (s := 16) rfl (fun c2 => ?_) (fun c2 => ?_)
    · refine WL_skip rfl rfl rfl ?_
      refine WL_skip rfl rfl rfl ?_
      refine WL_skip rfl rfl rfl ?_
      refine WL_val rfl rfl rfl (R_pickT rfl rfl rfl) ?_
      refine WL_val rfl rfl rfl (R_move rfl rfl) ?_
      refine WL_skip rfl rfl rfl ?_
      refine WL_skip rfl rfl rfl ?_
      refine WL_skip rfl rfl rfl ?_
      refine WL_val rfl rfl rfl (R_pickT rfl rfl rfl) ?_
      refine WL_val rfl rfl rfl (R_move rfl rfl) ?_
      refine WL_skip rfl rfl rfl ?_
      refine WL_skip rfl rfl rfl ?_
      refine WL_val rfl rfl rfl (R_pickT rfl rfl rfl) ?_
      refine WL_val rfl rfl rfl (R_move rfl rfl) ?_
      refine WL_skip rfl rfl rfl ?_
      refine WL_skip rfl rfl rfl ?_
      refine WL_val rfl rfl rfl (R_pickT rfl rfl rfl) ?_
      refine WL_val rfl rfl rfl (R_move rfl rfl) ?_
      refine WL_skip rfl rfl rfl ?_
      refine WL_skip rfl rfl rfl ?_
      refine WL_val rfl rfl rfl (R_pickT rfl rfl rfl) ?_
      refine WL_val rfl rfl rfl (R_move rfl rfl) ?_
      refine WL_skip rfl rfl rfl ?_
      refine WL_skip rfl rfl rfl ?_
      refine WL_val rfl rfl rfl (R_pickT rfl rfl rfl) ?_
      refine WL_nil ?_
      refine WQ_code ?_
      refine WC_T rfl ?_
      refine WC_seq ?_
      refine WC_region ?_
      refine WL_val rfl rfl rfl (R_assign rfl rfl) ?_
      refine WL_nil ?_
      refine WQ_code ?_
      refine WC_ret ?_
      refine WQ_ret rfl rfl (.cons (.tmp rfl) .nil) rfl (by
          first | exact ⟨congrArg Value.bool (decide_eq_true (⟨by omega, by omega, hall, by unfold OkR; omega⟩ : VOk k W limit op)).symm, rfl⟩ | exact ⟨congrArg Value.bool (decide_eq_false (fun h : VOk k W limit op => by obtain ⟨h1, h2, h3, h4⟩ := h; unfold OkR at h4; omega)).symm, rfl⟩ | exact ⟨congrArg Value.bool (decide_eq_false (fun h : VOk k W limit op => by have := h.2.2.1 w9 hwm; omega)).symm, rfl⟩) (pqY)
    · refine WL_val rfl rfl rfl (R_move rfl rfl) ?_
      refine WL_val rfl rfl rfl (R_len rfl Try.underlying26 rfl) ?_
      refine WL_val rfl rfl rfl (R_lss rfl rfl rfl) ?_
      refine WL_val rfl rfl rfl (R_pickF rfl rfl rfl) ?_
      refine WL_val rfl rfl rfl (R_move rfl rfl) ?_
      refine WL_splitD (s := 21) rfl (fun c3 => ?_) (fun c3 => ?_)
      · refine WL_skip rfl rfl rfl ?_
        refine WL_skip rfl rfl rfl ?_
        refine WL_skip rfl rfl rfl ?_
        refine WL_val rfl rfl rfl (R_pickT rfl rfl rfl) ?_
        refine WL_val rfl rfl rfl (R_move rfl rfl) ?_
        refine WL_skip rfl rfl rfl ?_
        refine WL_skip rfl rfl rfl ?_
        refine WL_val rfl rfl rfl (R_pickT rfl rfl rfl) ?_
        refine WL_val rfl rfl rfl (R_move rfl rfl) ?_
        refine WL_skip rfl rfl rfl ?_
        refine WL_skip rfl rfl rfl ?_
        refine WL_val rfl rfl rfl (R_pickT rfl rfl rfl) ?_
        refine WL_val rfl rfl rfl (R_move rfl rfl) ?_
        refine WL_skip rfl rfl rfl ?_
        refine WL_skip rfl rfl rfl ?_
        refine WL_val rfl rfl rfl (R_pickT rfl rfl rfl) ?_
        refine WL_val rfl rfl rfl (R_move rfl rfl) ?_
        refine WL_skip rfl rfl rfl ?_
        refine WL_skip rfl rfl rfl ?_
        refine WL_val rfl rfl rfl (R_pickT rfl rfl rfl) ?_
        refine WL_nil ?_
        refine WQ_code ?_
        refine WC_T rfl ?_
        refine WC_seq ?_
        refine WC_region ?_
        refine WL_val rfl rfl rfl (R_assign rfl rfl) ?_
        refine WL_nil ?_
        refine WQ_code ?_
        refine WC_ret ?_
        refine WQ_ret rfl rfl (.cons (.tmp rfl) .nil) rfl (by
            first | exact ⟨congrArg Value.bool (decide_eq_true (⟨by omega, by omega, hall, by unfold OkR; omega⟩ : VOk k W limit op)).symm, rfl⟩ | exact ⟨congrArg Value.bool (decide_eq_false (fun h : VOk k W limit op => by obtain ⟨h1, h2, h3, h4⟩ := h; unfold OkR at h4; omega)).symm, rfl⟩ | exact ⟨congrArg Value.bool (decide_eq_false (fun h : VOk k W limit op => by have := h.2.2.1 w9 hwm; omega)).symm, rfl⟩) (pqY)
      · refine WL_val rfl rfl rfl (R_move rfl rfl) ?_
        refine WL_val rfl rfl rfl (R_len rfl Try.underlying26 rfl) ?_
        refine WL_val rfl rfl rfl (R_gtr rfl rfl rfl) ?_
        refine WL_val rfl rfl rfl (R_pickF rfl rfl rfl) ?_
        refine WL_val rfl rfl rfl (R_move rfl rfl) ?_
        refine WL_splitD (s := 26) rfl (fun c4 => ?_) (fun c4 => ?_)
        · refine WL_skip rfl rfl rfl ?_
          refine WL_skip rfl rfl rfl ?_
          refine WL_val rfl rfl rfl (R_pickT rfl rfl rfl) ?_
          refine WL_val rfl rfl rfl (R_move rfl rfl) ?_
          refine WL_skip rfl rfl rfl ?_
          refine WL_skip rfl rfl rfl ?_
          refine WL_val rfl rfl rfl (R_pickT rfl rfl rfl) ?_
          refine WL_val rfl rfl rfl (R_move rfl rfl) ?_
          refine WL_skip rfl rfl rfl ?_
          refine WL_skip rfl rfl rfl ?_
          refine WL_val rfl rfl rfl (R_pickT rfl rfl rfl) ?_
          refine WL_val rfl rfl rfl (R_move rfl rfl) ?_
          refine WL_skip rfl rfl rfl ?_
          refine WL_skip rfl rfl rfl ?_
          refine WL_val rfl rfl rfl (R_pickT rfl rfl rfl) ?_
          refine WL_nil ?_
          refine WQ_code ?_
          refine WC_T rfl ?_
          refine WC_seq ?_
          refine WC_region ?_
          refine WL_val rfl rfl rfl (R_assign rfl rfl) ?_
          refine WL_nil ?_
          refine WQ_code ?_
          refine WC_ret ?_
          refine WQ_ret rfl rfl (.cons (.tmp rfl) .nil) rfl (by
              first | exact ⟨congrArg Value.bool (decide_eq_true (⟨by omega, by omega, hall, by unfold OkR; omega⟩ : VOk k W limit op)).symm, rfl⟩ | exact ⟨congrArg Value.bool (decide_eq_false (fun h : VOk k W limit op => by obtain ⟨h1, h2, h3, h4⟩ := h; unfold OkR at h4; omega)).symm, rfl⟩ | exact ⟨congrArg Value.bool (decide_eq_false (fun h : VOk k W limit op => by have := h.2.2.1 w9 hwm; omega)).symm, rfl⟩) (pqY)
        · refine WL_val rfl rfl rfl (R_move rfl rfl) ?_
          refine WL_val rfl rfl rfl (R_lss rfl rfl rfl) ?_
          refine WL_val rfl rfl rfl (R_pickF rfl rfl rfl) ?_
          refine WL_val rfl rfl rfl (R_move rfl rfl) ?_
          refine WL_splitD (s := 30) rfl (fun c5 => ?_) (fun c5 => ?_)
          · refine WL_skip rfl rfl rfl ?_
            refine WL_skip rfl rfl rfl ?_
            refine WL_val rfl rfl rfl (R_pickT rfl rfl rfl) ?_
            refine WL_val rfl rfl rfl (R_move rfl rfl) ?_
            refine WL_skip rfl rfl rfl ?_
            refine WL_skip rfl rfl rfl ?_
            refine WL_val rfl rfl rfl (R_pickT rfl rfl rfl) ?_
            refine WL_val rfl rfl rfl (R_move rfl rfl) ?_
            refine WL_skip rfl rfl rfl ?_
            refine WL_skip rfl rfl rfl ?_
            refine WL_val rfl rfl rfl (R_pickT rfl rfl rfl) ?_
            refine WL_nil ?_
            refine WQ_code ?_
            refine WC_T rfl ?_
            refine WC_seq ?_
            refine WC_region ?_
            refine WL_val rfl rfl rfl (R_assign rfl rfl) ?_
            refine WL_nil ?_
            refine WQ_code ?_
            refine WC_ret ?_
            refine WQ_ret rfl rfl (.cons (.tmp rfl) .nil) rfl (by
                first | exact ⟨congrArg Value.bool (decide_eq_true (⟨by omega, by omega, hall, by unfold OkR; omega⟩ : VOk k W limit op)).symm, rfl⟩ | exact ⟨congrArg Value.bool (decide_eq_false (fun h : VOk k W limit op => by obtain ⟨h1, h2, h3, h4⟩ := h; unfold OkR at h4; omega)).symm, rfl⟩ | exact ⟨congrArg Value.bool (decide_eq_false (fun h : VOk k W limit op => by have := h.2.2.1 w9 hwm; omega)).symm, rfl⟩) (pqY)
          · refine WL_val rfl rfl rfl (R_move rfl rfl) ?_
            refine WL_val rfl rfl rfl (R_gtr rfl rfl rfl) ?_
            refine WL_val rfl rfl rfl (R_pickF rfl rfl rfl) ?_
            refine WL_val rfl rfl rfl (R_move rfl rfl) ?_
            refine WL_splitD (s := 34) rfl (fun c6 => ?_) (fun c6 => ?_)
            · refine WL_skip rfl rfl rfl ?_
              refine WL_skip rfl rfl rfl ?_
              refine WL_val rfl rfl rfl (R_pickT rfl rfl rfl) ?_
              refine WL_val rfl rfl rfl (R_move rfl rfl) ?_
              refine WL_skip rfl rfl rfl ?_
              refine WL_skip rfl rfl rfl ?_
              refine WL_val rfl rfl rfl (R_pickT rfl rfl rfl) ?_
              refine WL_nil ?_
              refine WQ_code ?_
              refine WC_T rfl ?_
              refine WC_seq ?_
              refine WC_region ?_
              refine WL_val rfl rfl rfl (R_assign rfl rfl) ?_
              refine WL_nil ?_
              refine WQ_code ?_
              refine WC_ret ?_
              refine WQ_ret rfl rfl (.cons (.tmp rfl) .nil) rfl (by
                  first | exact ⟨congrArg Value.bool (decide_eq_true (⟨by omega, by omega, hall, by unfold OkR; omega⟩ : VOk k W limit op)).symm, rfl⟩ | exact ⟨congrArg Value.bool (decide_eq_false (fun h : VOk k W limit op => by obtain ⟨h1, h2, h3, h4⟩ := h; unfold OkR at h4; omega)).symm, rfl⟩ | exact ⟨congrArg Value.bool (decide_eq_false (fun h : VOk k W limit op => by have := h.2.2.1 w9 hwm; omega)).symm, rfl⟩) (pqY)
            · refine WL_val rfl rfl rfl (R_move rfl rfl) ?_
              refine WL_val rfl rfl rfl (R_lss rfl rfl rfl) ?_
              refine WL_val rfl rfl rfl (R_pickF rfl rfl rfl) ?_
              refine WL_val rfl rfl rfl (R_move rfl rfl) ?_
              refine WL_splitD (s := 38) rfl (fun c7 => ?_) (fun c7 => ?_)
              · refine WL_skip rfl rfl rfl ?_
                refine WL_skip rfl rfl rfl ?_
                refine WL_val rfl rfl rfl (R_pickT rfl rfl rfl) ?_
                refine WL_nil ?_
                refine WQ_code ?_
                refine WC_T rfl ?_
                refine WC_seq ?_
                refine WC_region ?_
                refine WL_val rfl rfl rfl (R_assign rfl rfl) ?_
                refine WL_nil ?_
                refine WQ_code ?_
                refine WC_ret ?_
                refine WQ_ret rfl rfl (.cons (.tmp rfl) .nil) rfl (by
                    first | exact ⟨congrArg Value.bool (decide_eq_true (⟨by omega, by omega, hall, by unfold OkR; omega⟩ : VOk k W limit op)).symm, rfl⟩ | exact ⟨congrArg Value.bool (decide_eq_false (fun h : VOk k W limit op => by obtain ⟨h1, h2, h3, h4⟩ := h; unfold OkR at h4; omega)).symm, rfl⟩ | exact ⟨congrArg Value.bool (decide_eq_false (fun h : VOk k W limit op => by have := h.2.2.1 w9 hwm; omega)).symm, rfl⟩) (pqY)
              · refine WL_val rfl rfl rfl (R_move rfl rfl) ?_
                refine WL_val rfl rfl rfl (R_gtr rfl rfl rfl) ?_
                refine WL_val rfl rfl rfl (R_pickF rfl rfl rfl) ?_
                refine WL_nil ?_
                refine WQ_code ?_
                refine WC_dec rfl (fun c8 => ?_) (fun c8 => ?_)
                · refine WC_seq ?_
                  refine WC_region ?_
                  refine WL_val rfl rfl rfl (R_assign rfl rfl) ?_
                  refine WL_nil ?_
                  refine WQ_code ?_
                  refine WC_ret ?_
                  refine WQ_ret rfl rfl (.cons (.tmp rfl) .nil) rfl (by
                      first | exact ⟨congrArg Value.bool (decide_eq_true (⟨by omega, by omega, hall, by unfold OkR; omega⟩ : VOk k W limit op)).symm, rfl⟩ | exact ⟨congrArg Value.bool (decide_eq_false (fun h : VOk k W limit op => by obtain ⟨h1, h2, h3, h4⟩ := h; unfold OkR at h4; omega)).symm, rfl⟩ | exact ⟨congrArg Value.bool (decide_eq_false (fun h : VOk k W limit op => by have := h.2.2.1 w9 hwm; omega)).symm, rfl⟩) (pqY)
                · refine WC_skip ?_
                  refine WQ_code ?_
                  refine WC_seq ?_
                  refine WC_seq ?_
                  refine WC_region ?_
                  refine WL_val rfl rfl rfl (R_assign rfl rfl) ?_
                  refine WL_nil ?_
                  refine WQ_code ?_
                  refine WC_block ?_
                  refine WC_loopF (G := Nat) [8, 9, 42, 43, 44, 45, 46, 47, 48, 49, 50, 51, 52, 53, 54, 55, 56, 57, 58, 59] (fun y => y ≤ W.length ∧ ∀ w ∈ W.take y, 1 ≤ w ∧ w ≤ 100) (fun y => [(9, .int .i64 (y : Int))]) (fun y => []) (fun y => W.length - y) (0) (⟨Nat.zero_le _, by simp⟩) leZ (pqY) ?_
                  rintro y ⟨hy, hyw⟩
                  refine WC_seq ?_
                  refine WC_seq ?_
                  refine WC_region ?_
                  refine WL_val rfl rfl rfl (R_move rfl rfl) ?_
                  refine WL_val rfl rfl rfl (R_move rfl rfl) ?_
                  refine WL_val rfl rfl rfl (R_len rfl Try.underlying26 rfl) ?_
                  refine WL_val rfl rfl rfl (R_lss rfl rfl rfl) ?_
                  refine WL_nil ?_
                  refine WQ_code ?_
                  refine WC_dec rfl (fun c9 => ?_) (fun c9 => ?_)
                  · refine WC_skip ?_
                    refine WQ_code ?_
                    refine WC_seq ?_
                    refine WC_block ?_
                    refine WC_seq ?_
                    refine WC_region ?_
                    obtain ⟨w9, hw9⟩ := getE (T := W) (i := y) (by omega)
                    obtain ⟨lb, lk, lcs, le, lfr, rfl, rfl, hat⟩ := ha (by omega)
                    have hwm := List.mem_of_getElem? hw9
                    refine WL_val rfl rfl rfl (R_move rfl rfl) ?_
                    refine WL_val rfl rfl rfl (R_move rfl rfl) ?_
                    refine WL_val rfl rfl rfl (R_indexAddrN rfl Try.underlying26 Try.sizeOf3 rfl rfl (by omega)) ?_
                    refine WL_val rfl rfl rfl (R_loadG (v := .int .i64 w9) rfl sc3 rfl mmY (hat y w9 hw9)) ?_
                    refine WL_val rfl rfl rfl (R_lss rfl rfl rfl) ?_
                    refine WL_val rfl rfl rfl (R_move rfl rfl) ?_
                    refine WL_splitD (s := 53) rfl (fun c10 => ?_) (fun c10 => ?_)
                    · refine WL_skip rfl rfl rfl ?_
                      refine WL_skip rfl rfl rfl ?_
                      refine WL_skip rfl rfl rfl ?_
                      refine WL_skip rfl rfl rfl ?_
                      refine WL_skip rfl rfl rfl ?_
                      refine WL_val rfl rfl rfl (R_pickT rfl rfl rfl) ?_
                      refine WL_nil ?_
                      refine WQ_code ?_
                      refine WC_T rfl ?_
                      refine WC_seq ?_
                      refine WC_region ?_
                      refine WL_val rfl rfl rfl (R_assign rfl rfl) ?_
                      refine WL_nil ?_
                      refine WQ_code ?_
                      refine WC_ret ?_
                      refine WQ_ret rfl rfl (.cons (.tmp rfl) .nil) rfl (by
                          first | exact ⟨congrArg Value.bool (decide_eq_true (⟨by omega, by omega, hall, by unfold OkR; omega⟩ : VOk k W limit op)).symm, rfl⟩ | exact ⟨congrArg Value.bool (decide_eq_false (fun h : VOk k W limit op => by obtain ⟨h1, h2, h3, h4⟩ := h; unfold OkR at h4; omega)).symm, rfl⟩ | exact ⟨congrArg Value.bool (decide_eq_false (fun h : VOk k W limit op => by have := h.2.2.1 w9 hwm; omega)).symm, rfl⟩) (pqY)
                    · refine WL_val rfl rfl rfl (R_move rfl rfl) ?_
                      refine WL_val rfl rfl rfl (R_move rfl rfl) ?_
                      refine WL_val rfl rfl rfl (R_indexAddrN rfl Try.underlying26 Try.sizeOf3 rfl rfl (by omega)) ?_
                      refine WL_val rfl rfl rfl (R_loadG (v := .int .i64 w9) rfl sc3 rfl mmY (hat y w9 hw9)) ?_
                      refine WL_val rfl rfl rfl (R_gtr rfl rfl rfl) ?_
                      refine WL_val rfl rfl rfl (R_pickF rfl rfl rfl) ?_
                      refine WL_nil ?_
                      refine WQ_code ?_
                      refine WC_dec rfl (fun c11 => ?_) (fun c11 => ?_)
                      · refine WC_seq ?_
                        refine WC_region ?_
                        refine WL_val rfl rfl rfl (R_assign rfl rfl) ?_
                        refine WL_nil ?_
                        refine WQ_code ?_
                        refine WC_ret ?_
                        refine WQ_ret rfl rfl (.cons (.tmp rfl) .nil) rfl (by
                            first | exact ⟨congrArg Value.bool (decide_eq_true (⟨by omega, by omega, hall, by unfold OkR; omega⟩ : VOk k W limit op)).symm, rfl⟩ | exact ⟨congrArg Value.bool (decide_eq_false (fun h : VOk k W limit op => by obtain ⟨h1, h2, h3, h4⟩ := h; unfold OkR at h4; omega)).symm, rfl⟩ | exact ⟨congrArg Value.bool (decide_eq_false (fun h : VOk k W limit op => by have := h.2.2.1 w9 hwm; omega)).symm, rfl⟩) (pqY)
                      · refine WC_skip ?_
                        refine WQ_code ?_
                        refine WC_region ?_
                        refine WL_val rfl rfl rfl (R_move rfl rfl) ?_
                        refine WL_val rfl rfl rfl (R_add rfl rfl rfl (by omega)) ?_
                        refine WL_val rfl rfl rfl (R_assign rfl rfl) ?_
                        refine WL_nil ?_
                        refine WQ_nextF (y + 1) (⟨by omega, fun v hv => by rw [take_next hw9] at hv; rcases List.mem_append.1 hv with hv | hv; exact hyw v hv; rw [List.mem_singleton.1 hv]; omega⟩) (by omega) leZ (psZ) rfl (pqY)
                  · have hall : ∀ w ∈ W, 1 ≤ w ∧ w ≤ 100 := by rw [List.take_of_length_le (by omega)] at hyw; exact hyw
                    refine WC_exit ?_
                    refine WQ_code ?_
                    refine WC_seq ?_
                    refine WC_region ?_
                    refine WL_val rfl rfl rfl (R_assign rfl rfl) ?_
                    refine WL_nil ?_
                    refine WQ_code ?_
                    refine WC_ret ?_
                    refine WQ_ret rfl rfl (.cons (.tmp rfl) .nil) rfl (by
                        exact ⟨congrArg Value.bool (decide_eq_true (⟨by omega, by omega, hall, by unfold OkR; omega⟩ : VOk k W limit op)).symm, rfl⟩) (pqY)

end Go.Proofs.Ytiokpmgbabpikaa
