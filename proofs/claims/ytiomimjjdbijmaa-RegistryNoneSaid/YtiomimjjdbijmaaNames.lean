/-
  Chapter 17 (registry), part Names: contracts of functions that the laws call, each for the heap it names.
-/
import Derived.Test.YtiomimjjdbijmaaRows
import Derived.Test.YtiomimjjdbijmaaZB
import Derived.Test.YtiomimjjdbijmaaSLMapJ
import Derived.Test.YtiomimjjdbijmaaSLScope
import Derived.Test.YtiomimjjdbijmaaTab
import Derived.Test.YtiomimjjdbijmaaNameL
set_option linter.unusedVariables false
set_option maxRecDepth 20000
set_option maxHeartbeats 4000000
namespace Go.Proofs.Ytiomimjjdbijmaa


theorem vname_ok (s : ByteArray) : Spec Try.prog 33 [.string s] [] (fun r H' => r = .bool (validN s) ∧ H' = []) := by
  refine Spec.of (E := [(0, .string s)]) Try.func33 rfl (by kernel_rfl) Try.ntmps33 rfl rfl (fun w => ?_)
  refine WC_seq ?_
  refine WC_region ?_
  refine WL_val rfl rfl rfl (R_assign rfl rfl) ?_
  refine WL_nil ?_
  refine WQ_code ?_
  refine WC_seq ?_
  refine WC_seq ?_
  refine WC_region ?_
  refine WL_val rfl rfl rfl (R_move rfl rfl) ?_
  refine WL_do rfl rfl rfl (D_rangeStr rfl Try.underlying9 rfl) ?_
  rintro _ _ ⟨bi, rfl, rfl⟩
  refine WL_nil ?_
  refine WQ_code ?_
  refine WC_block ?_
  refine WC_loopF (G := Nat) [2, 3, 4, 5, 8, 9, 10, 11, 12, 13, 14, 15, 16, 17, 18, 19, 20, 21, 22, 23, 24, 25, 26, 27, 28, 29, 30, 31, 32, 33, 34, 35, 36, 37, 38, 39, 40, 41, 42, 43, 44, 45, 46, 47, 48] (fun y => y ≤ s.size ∧ ∀ i u, i < y → (byt s)[i]? = some u → okCh i u.toNat) (fun y => []) (fun y => [⟨some bi, .stringIter s y⟩]) (fun y => s.size - y) (0) (⟨Nat.zero_le _, fun i u hi => absurd hi (Nat.not_lt_zero i)⟩) leZ (pqZ) ?_
  rintro y ⟨hy, hok⟩
  refine WC_seq ?_
  refine WC_region ?_
  refine WL_do rfl rfl rfl (D_nextStr rfl rfl plZ) ?_
  rintro _ _ (⟨hps, rfl, rfl⟩ | ⟨ch, wd, hcd, hps, rfl, rfl⟩)
  · have hall : ∀ i u, (byt s)[i]? = some u → okCh i u.toNat := fun i u hu => hok i u (by have := (List.getElem?_eq_some_iff.1 hu).1; rw [byt_len] at this; omega) hu
    refine WL_val rfl rfl rfl (R_extract rfl rfl rfl) ?_
    refine WL_set (s := 9) (v := .bool false) rfl (by rfl) ?_
    refine WL_nil ?_
    refine WQ_code ?_
    refine WC_seq ?_
    refine WC_F rfl ?_
    refine WC_exit ?_
    refine WQ_code ?_
    refine WC_seq ?_
    refine WC_region ?_
    refine WL_val rfl rfl rfl (R_move rfl rfl) ?_
    refine WL_val rfl rfl rfl (R_lenStr rfl Try.underlying9 rfl) ?_
    refine WL_val rfl rfl rfl (R_geq rfl rfl rfl) ?_
    refine WL_val rfl rfl rfl (R_move rfl rfl) ?_
    refine WL_splitD (s := 52) rfl (fun c1 => ?_) (fun c1 => ?_)
    · refine WL_val rfl rfl rfl (R_move rfl rfl) ?_
      refine WL_val rfl rfl rfl (R_lenStr rfl Try.underlying9 rfl) ?_
      refine WL_val rfl rfl rfl (R_leq rfl rfl rfl) ?_
      refine WL_val rfl rfl rfl (R_pickT rfl rfl rfl) ?_
      refine WL_val rfl rfl rfl (R_assign rfl rfl) ?_
      refine WL_nil ?_
      refine WQ_code ?_
      refine WC_ret ?_
      refine WQ_ret rfl rfl (.cons (.tmp rfl) .nil) rfl (by
          first | exact ⟨congrArg Value.bool (validN_bad hu (by unfold okCh isL isD; omega)).symm, rfl⟩ | exact ⟨congrArg Value.bool (validN_len (by omega)).symm, rfl⟩ | exact ⟨congrArg Value.bool (validN_end hall (by omega)), rfl⟩) (pqZ)
    · refine WL_skip rfl rfl rfl ?_
      refine WL_skip rfl rfl rfl ?_
      refine WL_skip rfl rfl rfl ?_
      refine WL_val rfl rfl rfl (R_pickF rfl rfl rfl) ?_
      refine WL_val rfl rfl rfl (R_assign rfl rfl) ?_
      refine WL_nil ?_
      refine WQ_code ?_
      refine WC_ret ?_
      refine WQ_ret rfl rfl (.cons (.tmp rfl) .nil) rfl (by
          first | exact ⟨congrArg Value.bool (validN_bad hu (by unfold okCh isL isD; omega)).symm, rfl⟩ | exact ⟨congrArg Value.bool (validN_len (by omega)).symm, rfl⟩ | exact ⟨congrArg Value.bool (validN_end hall (by omega)), rfl⟩) (pqZ)
  · obtain ⟨u, hu⟩ := byt_at hps
    have hcu := dec_or hu hcd
    refine WL_val rfl rfl rfl (R_extract rfl rfl rfl) ?_
    refine WL_set (s := 9) (v := .bool true) rfl (by rfl) ?_
    refine WL_nil ?_
    refine WQ_code ?_
    refine WC_seq ?_
    refine WC_T rfl ?_
    refine WC_skip ?_
    refine WQ_code ?_
    refine WC_block ?_
    refine WC_seq ?_
    refine WC_region ?_
    refine WL_val rfl rfl rfl (R_extract rfl rfl rfl) ?_
    refine WL_val rfl rfl rfl (R_extract rfl rfl rfl) ?_
    refine WL_val rfl rfl rfl (R_assign rfl rfl) ?_
    refine WL_val rfl rfl rfl (R_assign rfl rfl) ?_
    refine WL_nil ?_
    refine WQ_code ?_
    refine WC_seq ?_
    refine WC_region ?_
    refine WL_val rfl rfl rfl (R_move rfl rfl) ?_
    refine WL_val rfl rfl rfl (R_geq rfl rfl rfl) ?_
    refine WL_val rfl rfl rfl (R_move rfl rfl) ?_
    refine WL_splitD (s := 14) rfl (fun c2 => ?_) (fun c2 => ?_)
    · refine WL_val rfl rfl rfl (R_move rfl rfl) ?_
      refine WL_val rfl rfl rfl (R_leq rfl rfl rfl) ?_
      refine WL_val rfl rfl rfl (R_pickT rfl rfl rfl) ?_
      refine WL_val rfl rfl rfl (R_move rfl rfl) ?_
      refine WL_splitD (s := 18) rfl (fun c3 => ?_) (fun c3 => ?_)
      · refine WL_skip rfl rfl rfl ?_
        refine WL_skip rfl rfl rfl ?_
        refine WL_skip rfl rfl rfl ?_
        refine WL_skip rfl rfl rfl ?_
        refine WL_skip rfl rfl rfl ?_
        refine WL_skip rfl rfl rfl ?_
        refine WL_val rfl rfl rfl (R_pickT rfl rfl rfl) ?_
        refine WL_val rfl rfl rfl (R_assign rfl rfl) ?_
        refine WL_nil ?_
        refine WQ_code ?_
        refine WC_seq ?_
        refine WC_region ?_
        refine WL_val rfl rfl rfl (R_move rfl rfl) ?_
        refine WL_val rfl rfl rfl (R_not rfl rfl) ?_
        refine WL_val rfl rfl rfl (R_move rfl rfl) ?_
        refine WL_skip rfl rfl rfl ?_
        refine WL_skip rfl rfl rfl ?_
        refine WL_skip rfl rfl rfl ?_
        refine WL_skip rfl rfl rfl ?_
        refine WL_skip rfl rfl rfl ?_
        refine WL_skip rfl rfl rfl ?_
        refine WL_skip rfl rfl rfl ?_
        refine WL_skip rfl rfl rfl ?_
        refine WL_skip rfl rfl rfl ?_
        refine WL_skip rfl rfl rfl ?_
        refine WL_skip rfl rfl rfl ?_
        refine WL_skip rfl rfl rfl ?_
        refine WL_skip rfl rfl rfl ?_
        refine WL_skip rfl rfl rfl ?_
        refine WL_skip rfl rfl rfl ?_
        refine WL_skip rfl rfl rfl ?_
        refine WL_skip rfl rfl rfl ?_
        refine WL_skip rfl rfl rfl ?_
        refine WL_skip rfl rfl rfl ?_
        refine WL_val rfl rfl rfl (R_pickF rfl rfl rfl) ?_
        refine WL_nil ?_
        refine WQ_code ?_
        refine WC_F rfl ?_
        refine WC_skip ?_
        refine WQ_nextF (gg := y) (y + wd) (⟨by omega, fun i u9 hi hu9 => by rcases Nat.lt_or_ge i y with h9 | h9; exact hok i u9 h9 hu9; (obtain rfl : i = y := by omega); rw [hu] at hu9; obtain rfl := Option.some.inj hu9; unfold okCh isL isD; omega⟩) (by omega) leZ (psZ) rfl (pqZ)
      · refine WL_val rfl rfl rfl (R_move rfl rfl) ?_
        refine WL_val rfl rfl rfl (R_geq rfl rfl rfl) ?_
        refine WL_val rfl rfl rfl (R_move rfl rfl) ?_
        refine WL_splitD (s := 21) rfl (fun c4 => ?_) (fun c4 => ?_)
        · refine WL_val rfl rfl rfl (R_move rfl rfl) ?_
          refine WL_val rfl rfl rfl (R_leq rfl rfl rfl) ?_
          refine WL_val rfl rfl rfl (R_pickT rfl rfl rfl) ?_
          refine WL_val rfl rfl rfl (R_pickF rfl rfl rfl) ?_
          refine WL_val rfl rfl rfl (R_assign rfl rfl) ?_
          refine WL_nil ?_
          refine WQ_code ?_
          refine WC_seq ?_
          refine WC_region ?_
          refine WL_val rfl rfl rfl (R_move rfl rfl) ?_
          refine WL_val rfl rfl rfl (R_notD rfl rfl) ?_
          refine WL_val rfl rfl rfl (R_move rfl rfl) ?_
          refine WL_splitD (s := 28) rfl (fun c5 => ?_) (fun c5 => ?_)
          · refine WL_val rfl rfl rfl (R_move rfl rfl) ?_
            refine WL_val rfl rfl rfl (R_eql rfl rfl rfl) ?_
            refine WL_val rfl rfl rfl (R_move rfl rfl) ?_
            refine WL_splitD (s := 31) rfl (fun c6 => ?_) (fun c6 => ?_)
            · refine WL_skip rfl rfl rfl ?_
              refine WL_skip rfl rfl rfl ?_
              refine WL_skip rfl rfl rfl ?_
              refine WL_skip rfl rfl rfl ?_
              refine WL_skip rfl rfl rfl ?_
              refine WL_skip rfl rfl rfl ?_
              refine WL_skip rfl rfl rfl ?_
              refine WL_skip rfl rfl rfl ?_
              refine WL_skip rfl rfl rfl ?_
              refine WL_skip rfl rfl rfl ?_
              refine WL_skip rfl rfl rfl ?_
              refine WL_skip rfl rfl rfl ?_
              refine WL_skip rfl rfl rfl ?_
              refine WL_skip rfl rfl rfl ?_
              refine WL_skip rfl rfl rfl ?_
              refine WL_val rfl rfl rfl (R_pickT rfl rfl rfl) ?_
              refine WL_val rfl rfl rfl (R_pickT rfl rfl rfl) ?_
              refine WL_nil ?_
              refine WQ_code ?_
              refine WC_T rfl ?_
              refine WC_seq ?_
              refine WC_region ?_
              refine WL_val rfl rfl rfl (R_assign rfl rfl) ?_
              refine WL_nil ?_
              refine WQ_code ?_
              refine WC_ret ?_
              refine WQ_ret rfl rfl (.cons (.tmp rfl) .nil) rfl (by
                  first | exact ⟨congrArg Value.bool (validN_bad hu (by unfold okCh isL isD; omega)).symm, rfl⟩ | exact ⟨congrArg Value.bool (validN_len (by omega)).symm, rfl⟩ | exact ⟨congrArg Value.bool (validN_end hall (by omega)), rfl⟩) (pqZ)
            · refine WL_val rfl rfl rfl (R_move rfl rfl) ?_
              refine WL_val rfl rfl rfl (R_geq rfl rfl rfl) ?_
              refine WL_val rfl rfl rfl (R_move rfl rfl) ?_
              refine WL_splitD (s := 34) rfl (fun c7 => ?_) (fun c7 => ?_)
              · refine WL_val rfl rfl rfl (R_move rfl rfl) ?_
                refine WL_val rfl rfl rfl (R_leq rfl rfl rfl) ?_
                refine WL_val rfl rfl rfl (R_pickT rfl rfl rfl) ?_
                refine WL_val rfl rfl rfl (R_notD rfl rfl) ?_
                refine WL_val rfl rfl rfl (R_move rfl rfl) ?_
                refine WL_splitD (s := 39) rfl (fun c8 => ?_) (fun c8 => ?_)
                · refine WL_val rfl rfl rfl (R_move rfl rfl) ?_
                  refine WL_val rfl rfl rfl (R_neq rfl rfl rfl) ?_
                  refine WL_val rfl rfl rfl (R_pickT rfl rfl rfl) ?_
                  refine WL_val rfl rfl rfl (R_move rfl rfl) ?_
                  refine WL_splitD (s := 43) rfl (fun c9 => ?_) (fun c9 => ?_)
                  · refine WL_val rfl rfl rfl (R_move rfl rfl) ?_
                    refine WL_val rfl rfl rfl (R_neq rfl rfl rfl) ?_
                    refine WL_val rfl rfl rfl (R_pickT rfl rfl rfl) ?_
                    refine WL_val rfl rfl rfl (R_pickF rfl rfl rfl) ?_
                    refine WL_val rfl rfl rfl (R_pickT rfl rfl rfl) ?_
                    refine WL_nil ?_
                    refine WQ_code ?_
                    refine WC_dec rfl (fun c10 => ?_) (fun c10 => ?_)
                    · refine WC_seq ?_
                      refine WC_region ?_
                      refine WL_val rfl rfl rfl (R_assign rfl rfl) ?_
                      refine WL_nil ?_
                      refine WQ_code ?_
                      refine WC_ret ?_
                      refine WQ_ret rfl rfl (.cons (.tmp rfl) .nil) rfl (by
                          first | exact ⟨congrArg Value.bool (validN_bad hu (by unfold okCh isL isD; omega)).symm, rfl⟩ | exact ⟨congrArg Value.bool (validN_len (by omega)).symm, rfl⟩ | exact ⟨congrArg Value.bool (validN_end hall (by omega)), rfl⟩) (pqZ)
                    · refine WC_skip ?_
                      refine WQ_nextF (gg := y) (y + wd) (⟨by omega, fun i u9 hi hu9 => by rcases Nat.lt_or_ge i y with h9 | h9; exact hok i u9 h9 hu9; (obtain rfl : i = y := by omega); rw [hu] at hu9; obtain rfl := Option.some.inj hu9; unfold okCh isL isD; omega⟩) (by omega) leZ (psZ) rfl (pqZ)
                  · refine WL_skip rfl rfl rfl ?_
                    refine WL_skip rfl rfl rfl ?_
                    refine WL_val rfl rfl rfl (R_pickF rfl rfl rfl) ?_
                    refine WL_val rfl rfl rfl (R_pickF rfl rfl rfl) ?_
                    refine WL_val rfl rfl rfl (R_pickT rfl rfl rfl) ?_
                    refine WL_nil ?_
                    refine WQ_code ?_
                    refine WC_F rfl ?_
                    refine WC_skip ?_
                    refine WQ_nextF (gg := y) (y + wd) (⟨by omega, fun i u9 hi hu9 => by rcases Nat.lt_or_ge i y with h9 | h9; exact hok i u9 h9 hu9; (obtain rfl : i = y := by omega); rw [hu] at hu9; obtain rfl := Option.some.inj hu9; unfold okCh isL isD; omega⟩) (by omega) leZ (psZ) rfl (pqZ)
                · refine WL_skip rfl rfl rfl ?_
                  refine WL_skip rfl rfl rfl ?_
                  refine WL_val rfl rfl rfl (R_pickF rfl rfl rfl) ?_
                  refine WL_val rfl rfl rfl (R_move rfl rfl) ?_
                  refine WL_skip rfl rfl rfl ?_
                  refine WL_skip rfl rfl rfl ?_
                  refine WL_val rfl rfl rfl (R_pickF rfl rfl rfl) ?_
                  refine WL_val rfl rfl rfl (R_pickF rfl rfl rfl) ?_
                  refine WL_val rfl rfl rfl (R_pickT rfl rfl rfl) ?_
                  refine WL_nil ?_
                  refine WQ_code ?_
                  refine WC_F rfl ?_
                  refine WC_skip ?_
                  refine WQ_nextF (gg := y) (y + wd) (⟨by omega, fun i u9 hi hu9 => by rcases Nat.lt_or_ge i y with h9 | h9; exact hok i u9 h9 hu9; (obtain rfl : i = y := by omega); rw [hu] at hu9; obtain rfl := Option.some.inj hu9; unfold okCh isL isD; omega⟩) (by omega) leZ (psZ) rfl (pqZ)
              · refine WL_skip rfl rfl rfl ?_
                refine WL_skip rfl rfl rfl ?_
                refine WL_val rfl rfl rfl (R_pickF rfl rfl rfl) ?_
                refine WL_val rfl rfl rfl (R_not rfl rfl) ?_
                refine WL_val rfl rfl rfl (R_move rfl rfl) ?_
                refine WL_val rfl rfl rfl (R_move rfl rfl) ?_
                refine WL_val rfl rfl rfl (R_neq rfl rfl rfl) ?_
                refine WL_val rfl rfl rfl (R_pickT rfl rfl rfl) ?_
                refine WL_val rfl rfl rfl (R_move rfl rfl) ?_
                refine WL_splitD (s := 43) rfl (fun c11 => ?_) (fun c11 => ?_)
                · refine WL_val rfl rfl rfl (R_move rfl rfl) ?_
                  refine WL_val rfl rfl rfl (R_neq rfl rfl rfl) ?_
                  refine WL_val rfl rfl rfl (R_pickT rfl rfl rfl) ?_
                  refine WL_val rfl rfl rfl (R_pickF rfl rfl rfl) ?_
                  refine WL_val rfl rfl rfl (R_pickT rfl rfl rfl) ?_
                  refine WL_nil ?_
                  refine WQ_code ?_
                  refine WC_dec rfl (fun c12 => ?_) (fun c12 => ?_)
                  · refine WC_seq ?_
                    refine WC_region ?_
                    refine WL_val rfl rfl rfl (R_assign rfl rfl) ?_
                    refine WL_nil ?_
                    refine WQ_code ?_
                    refine WC_ret ?_
                    refine WQ_ret rfl rfl (.cons (.tmp rfl) .nil) rfl (by
                        first | exact ⟨congrArg Value.bool (validN_bad hu (by unfold okCh isL isD; omega)).symm, rfl⟩ | exact ⟨congrArg Value.bool (validN_len (by omega)).symm, rfl⟩ | exact ⟨congrArg Value.bool (validN_end hall (by omega)), rfl⟩) (pqZ)
                  · refine WC_skip ?_
                    refine WQ_nextF (gg := y) (y + wd) (⟨by omega, fun i u9 hi hu9 => by rcases Nat.lt_or_ge i y with h9 | h9; exact hok i u9 h9 hu9; (obtain rfl : i = y := by omega); rw [hu] at hu9; obtain rfl := Option.some.inj hu9; unfold okCh isL isD; omega⟩) (by omega) leZ (psZ) rfl (pqZ)
                · refine WL_skip rfl rfl rfl ?_
                  refine WL_skip rfl rfl rfl ?_
                  refine WL_val rfl rfl rfl (R_pickF rfl rfl rfl) ?_
                  refine WL_val rfl rfl rfl (R_pickF rfl rfl rfl) ?_
                  refine WL_val rfl rfl rfl (R_pickT rfl rfl rfl) ?_
                  refine WL_nil ?_
                  refine WQ_code ?_
                  refine WC_F rfl ?_
                  refine WC_skip ?_
                  refine WQ_nextF (gg := y) (y + wd) (⟨by omega, fun i u9 hi hu9 => by rcases Nat.lt_or_ge i y with h9 | h9; exact hok i u9 h9 hu9; (obtain rfl : i = y := by omega); rw [hu] at hu9; obtain rfl := Option.some.inj hu9; unfold okCh isL isD; omega⟩) (by omega) leZ (psZ) rfl (pqZ)
          · refine WL_skip rfl rfl rfl ?_
            refine WL_skip rfl rfl rfl ?_
            refine WL_skip rfl rfl rfl ?_
            refine WL_skip rfl rfl rfl ?_
            refine WL_skip rfl rfl rfl ?_
            refine WL_skip rfl rfl rfl ?_
            refine WL_skip rfl rfl rfl ?_
            refine WL_skip rfl rfl rfl ?_
            refine WL_skip rfl rfl rfl ?_
            refine WL_skip rfl rfl rfl ?_
            refine WL_skip rfl rfl rfl ?_
            refine WL_skip rfl rfl rfl ?_
            refine WL_skip rfl rfl rfl ?_
            refine WL_skip rfl rfl rfl ?_
            refine WL_skip rfl rfl rfl ?_
            refine WL_skip rfl rfl rfl ?_
            refine WL_skip rfl rfl rfl ?_
            refine WL_skip rfl rfl rfl ?_
            refine WL_skip rfl rfl rfl ?_
            refine WL_val rfl rfl rfl (R_pickF rfl rfl rfl) ?_
            refine WL_nil ?_
            refine WQ_code ?_
            refine WC_F rfl ?_
            refine WC_skip ?_
            refine WQ_nextF (gg := y) (y + wd) (⟨by omega, fun i u9 hi hu9 => by rcases Nat.lt_or_ge i y with h9 | h9; exact hok i u9 h9 hu9; (obtain rfl : i = y := by omega); rw [hu] at hu9; obtain rfl := Option.some.inj hu9; unfold okCh isL isD; omega⟩) (by omega) leZ (psZ) rfl (pqZ)
        · refine WL_skip rfl rfl rfl ?_
          refine WL_skip rfl rfl rfl ?_
          refine WL_val rfl rfl rfl (R_pickF rfl rfl rfl) ?_
          refine WL_val rfl rfl rfl (R_pickF rfl rfl rfl) ?_
          refine WL_val rfl rfl rfl (R_assign rfl rfl) ?_
          refine WL_nil ?_
          refine WQ_code ?_
          refine WC_seq ?_
          refine WC_region ?_
          refine WL_val rfl rfl rfl (R_move rfl rfl) ?_
          refine WL_val rfl rfl rfl (R_not rfl rfl) ?_
          refine WL_val rfl rfl rfl (R_move rfl rfl) ?_
          refine WL_val rfl rfl rfl (R_move rfl rfl) ?_
          refine WL_val rfl rfl rfl (R_eql rfl rfl rfl) ?_
          refine WL_val rfl rfl rfl (R_move rfl rfl) ?_
          refine WL_splitD (s := 31) rfl (fun c13 => ?_) (fun c13 => ?_)
          · refine WL_skip rfl rfl rfl ?_
            refine WL_skip rfl rfl rfl ?_
            refine WL_skip rfl rfl rfl ?_
            refine WL_skip rfl rfl rfl ?_
            refine WL_skip rfl rfl rfl ?_
            refine WL_skip rfl rfl rfl ?_
            refine WL_skip rfl rfl rfl ?_
            refine WL_skip rfl rfl rfl ?_
            refine WL_skip rfl rfl rfl ?_
            refine WL_skip rfl rfl rfl ?_
            refine WL_skip rfl rfl rfl ?_
            refine WL_skip rfl rfl rfl ?_
            refine WL_skip rfl rfl rfl ?_
            refine WL_skip rfl rfl rfl ?_
            refine WL_skip rfl rfl rfl ?_
            refine WL_val rfl rfl rfl (R_pickT rfl rfl rfl) ?_
            refine WL_val rfl rfl rfl (R_pickT rfl rfl rfl) ?_
            refine WL_nil ?_
            refine WQ_code ?_
            refine WC_T rfl ?_
            refine WC_seq ?_
            refine WC_region ?_
            refine WL_val rfl rfl rfl (R_assign rfl rfl) ?_
            refine WL_nil ?_
            refine WQ_code ?_
            refine WC_ret ?_
            refine WQ_ret rfl rfl (.cons (.tmp rfl) .nil) rfl (by
                first | exact ⟨congrArg Value.bool (validN_bad hu (by unfold okCh isL isD; omega)).symm, rfl⟩ | exact ⟨congrArg Value.bool (validN_len (by omega)).symm, rfl⟩ | exact ⟨congrArg Value.bool (validN_end hall (by omega)), rfl⟩) (pqZ)
          · refine WL_val rfl rfl rfl (R_move rfl rfl) ?_
            refine WL_val rfl rfl rfl (R_geq rfl rfl rfl) ?_
            refine WL_val rfl rfl rfl (R_move rfl rfl) ?_
            refine WL_splitD (s := 34) rfl (fun c14 => ?_) (fun c14 => ?_)
            · refine WL_val rfl rfl rfl (R_move rfl rfl) ?_
              refine WL_val rfl rfl rfl (R_leq rfl rfl rfl) ?_
              refine WL_val rfl rfl rfl (R_pickT rfl rfl rfl) ?_
              refine WL_val rfl rfl rfl (R_notD rfl rfl) ?_
              refine WL_val rfl rfl rfl (R_move rfl rfl) ?_
              refine WL_splitD (s := 39) rfl (fun c15 => ?_) (fun c15 => ?_)
              · refine WL_val rfl rfl rfl (R_move rfl rfl) ?_
                refine WL_val rfl rfl rfl (R_neq rfl rfl rfl) ?_
                refine WL_val rfl rfl rfl (R_pickT rfl rfl rfl) ?_
                refine WL_val rfl rfl rfl (R_move rfl rfl) ?_
                refine WL_splitD (s := 43) rfl (fun c16 => ?_) (fun c16 => ?_)
                · refine WL_val rfl rfl rfl (R_move rfl rfl) ?_
                  refine WL_val rfl rfl rfl (R_neq rfl rfl rfl) ?_
                  refine WL_val rfl rfl rfl (R_pickT rfl rfl rfl) ?_
                  refine WL_val rfl rfl rfl (R_pickF rfl rfl rfl) ?_
                  refine WL_val rfl rfl rfl (R_pickT rfl rfl rfl) ?_
                  refine WL_nil ?_
                  refine WQ_code ?_
                  refine WC_dec rfl (fun c17 => ?_) (fun c17 => ?_)
                  · refine WC_seq ?_
                    refine WC_region ?_
                    refine WL_val rfl rfl rfl (R_assign rfl rfl) ?_
                    refine WL_nil ?_
                    refine WQ_code ?_
                    refine WC_ret ?_
                    refine WQ_ret rfl rfl (.cons (.tmp rfl) .nil) rfl (by
                        first | exact ⟨congrArg Value.bool (validN_bad hu (by unfold okCh isL isD; omega)).symm, rfl⟩ | exact ⟨congrArg Value.bool (validN_len (by omega)).symm, rfl⟩ | exact ⟨congrArg Value.bool (validN_end hall (by omega)), rfl⟩) (pqZ)
                  · refine WC_skip ?_
                    refine WQ_nextF (gg := y) (y + wd) (⟨by omega, fun i u9 hi hu9 => by rcases Nat.lt_or_ge i y with h9 | h9; exact hok i u9 h9 hu9; (obtain rfl : i = y := by omega); rw [hu] at hu9; obtain rfl := Option.some.inj hu9; unfold okCh isL isD; omega⟩) (by omega) leZ (psZ) rfl (pqZ)
                · refine WL_skip rfl rfl rfl ?_
                  refine WL_skip rfl rfl rfl ?_
                  refine WL_val rfl rfl rfl (R_pickF rfl rfl rfl) ?_
                  refine WL_val rfl rfl rfl (R_pickF rfl rfl rfl) ?_
                  refine WL_val rfl rfl rfl (R_pickT rfl rfl rfl) ?_
                  refine WL_nil ?_
                  refine WQ_code ?_
                  refine WC_F rfl ?_
                  refine WC_skip ?_
                  refine WQ_nextF (gg := y) (y + wd) (⟨by omega, fun i u9 hi hu9 => by rcases Nat.lt_or_ge i y with h9 | h9; exact hok i u9 h9 hu9; (obtain rfl : i = y := by omega); rw [hu] at hu9; obtain rfl := Option.some.inj hu9; unfold okCh isL isD; omega⟩) (by omega) leZ (psZ) rfl (pqZ)
              · refine WL_skip rfl rfl rfl ?_
                refine WL_skip rfl rfl rfl ?_
                refine WL_val rfl rfl rfl (R_pickF rfl rfl rfl) ?_
                refine WL_val rfl rfl rfl (R_move rfl rfl) ?_
                refine WL_skip rfl rfl rfl ?_
                refine WL_skip rfl rfl rfl ?_
                refine WL_val rfl rfl rfl (R_pickF rfl rfl rfl) ?_
                refine WL_val rfl rfl rfl (R_pickF rfl rfl rfl) ?_
                refine WL_val rfl rfl rfl (R_pickT rfl rfl rfl) ?_
                refine WL_nil ?_
                refine WQ_code ?_
                refine WC_F rfl ?_
                refine WC_skip ?_
                refine WQ_nextF (gg := y) (y + wd) (⟨by omega, fun i u9 hi hu9 => by rcases Nat.lt_or_ge i y with h9 | h9; exact hok i u9 h9 hu9; (obtain rfl : i = y := by omega); rw [hu] at hu9; obtain rfl := Option.some.inj hu9; unfold okCh isL isD; omega⟩) (by omega) leZ (psZ) rfl (pqZ)
            · refine WL_skip rfl rfl rfl ?_
              refine WL_skip rfl rfl rfl ?_
              refine WL_val rfl rfl rfl (R_pickF rfl rfl rfl) ?_
              refine WL_val rfl rfl rfl (R_not rfl rfl) ?_
              refine WL_val rfl rfl rfl (R_move rfl rfl) ?_
              refine WL_val rfl rfl rfl (R_move rfl rfl) ?_
              refine WL_val rfl rfl rfl (R_neq rfl rfl rfl) ?_
              refine WL_val rfl rfl rfl (R_pickT rfl rfl rfl) ?_
              refine WL_val rfl rfl rfl (R_move rfl rfl) ?_
              refine WL_splitD (s := 43) rfl (fun c18 => ?_) (fun c18 => ?_)
              · refine WL_val rfl rfl rfl (R_move rfl rfl) ?_
                refine WL_val rfl rfl rfl (R_neq rfl rfl rfl) ?_
                refine WL_val rfl rfl rfl (R_pickT rfl rfl rfl) ?_
                refine WL_val rfl rfl rfl (R_pickF rfl rfl rfl) ?_
                refine WL_val rfl rfl rfl (R_pickT rfl rfl rfl) ?_
                refine WL_nil ?_
                refine WQ_code ?_
                refine WC_dec rfl (fun c19 => ?_) (fun c19 => ?_)
                · refine WC_seq ?_
                  refine WC_region ?_
                  refine WL_val rfl rfl rfl (R_assign rfl rfl) ?_
                  refine WL_nil ?_
                  refine WQ_code ?_
                  refine WC_ret ?_
                  refine WQ_ret rfl rfl (.cons (.tmp rfl) .nil) rfl (by
                      first | exact ⟨congrArg Value.bool (validN_bad hu (by unfold okCh isL isD; omega)).symm, rfl⟩ | exact ⟨congrArg Value.bool (validN_len (by omega)).symm, rfl⟩ | exact ⟨congrArg Value.bool (validN_end hall (by omega)), rfl⟩) (pqZ)
                · refine WC_skip ?_
                  refine WQ_nextF (gg := y) (y + wd) (⟨by omega, fun i u9 hi hu9 => by rcases Nat.lt_or_ge i y with h9 | h9; exact hok i u9 h9 hu9; (obtain rfl : i = y := by omega); rw [hu] at hu9; obtain rfl := Option.some.inj hu9; unfold okCh isL isD; omega⟩) (by omega) leZ (psZ) rfl (pqZ)
              · refine WL_skip rfl rfl rfl ?_
                refine WL_skip rfl rfl rfl ?_
                refine WL_val rfl rfl rfl (R_pickF rfl rfl rfl) ?_
                refine WL_val rfl rfl rfl (R_pickF rfl rfl rfl) ?_
                refine WL_val rfl rfl rfl (R_pickT rfl rfl rfl) ?_
                refine WL_nil ?_
                refine WQ_code ?_
                refine WC_F rfl ?_
                refine WC_skip ?_
                refine WQ_nextF (gg := y) (y + wd) (⟨by omega, fun i u9 hi hu9 => by rcases Nat.lt_or_ge i y with h9 | h9; exact hok i u9 h9 hu9; (obtain rfl : i = y := by omega); rw [hu] at hu9; obtain rfl := Option.some.inj hu9; unfold okCh isL isD; omega⟩) (by omega) leZ (psZ) rfl (pqZ)
    · refine WL_skip rfl rfl rfl ?_
      refine WL_skip rfl rfl rfl ?_
      refine WL_val rfl rfl rfl (R_pickF rfl rfl rfl) ?_
      refine WL_val rfl rfl rfl (R_move rfl rfl) ?_
      refine WL_val rfl rfl rfl (R_move rfl rfl) ?_
      refine WL_val rfl rfl rfl (R_geq rfl rfl rfl) ?_
      refine WL_val rfl rfl rfl (R_move rfl rfl) ?_
      refine WL_splitD (s := 21) rfl (fun c20 => ?_) (fun c20 => ?_)
      · refine WL_val rfl rfl rfl (R_move rfl rfl) ?_
        refine WL_val rfl rfl rfl (R_leq rfl rfl rfl) ?_
        refine WL_val rfl rfl rfl (R_pickT rfl rfl rfl) ?_
        refine WL_val rfl rfl rfl (R_pickF rfl rfl rfl) ?_
        refine WL_val rfl rfl rfl (R_assign rfl rfl) ?_
        refine WL_nil ?_
        refine WQ_code ?_
        refine WC_seq ?_
        refine WC_region ?_
        refine WL_val rfl rfl rfl (R_move rfl rfl) ?_
        refine WL_val rfl rfl rfl (R_notD rfl rfl) ?_
        refine WL_val rfl rfl rfl (R_move rfl rfl) ?_
        refine WL_splitD (s := 28) rfl (fun c21 => ?_) (fun c21 => ?_)
        · refine WL_val rfl rfl rfl (R_move rfl rfl) ?_
          refine WL_val rfl rfl rfl (R_eql rfl rfl rfl) ?_
          refine WL_val rfl rfl rfl (R_move rfl rfl) ?_
          refine WL_splitD (s := 31) rfl (fun c22 => ?_) (fun c22 => ?_)
          · refine WL_skip rfl rfl rfl ?_
            refine WL_skip rfl rfl rfl ?_
            refine WL_skip rfl rfl rfl ?_
            refine WL_skip rfl rfl rfl ?_
            refine WL_skip rfl rfl rfl ?_
            refine WL_skip rfl rfl rfl ?_
            refine WL_skip rfl rfl rfl ?_
            refine WL_skip rfl rfl rfl ?_
            refine WL_skip rfl rfl rfl ?_
            refine WL_skip rfl rfl rfl ?_
            refine WL_skip rfl rfl rfl ?_
            refine WL_skip rfl rfl rfl ?_
            refine WL_skip rfl rfl rfl ?_
            refine WL_skip rfl rfl rfl ?_
            refine WL_skip rfl rfl rfl ?_
            refine WL_val rfl rfl rfl (R_pickT rfl rfl rfl) ?_
            refine WL_val rfl rfl rfl (R_pickT rfl rfl rfl) ?_
            refine WL_nil ?_
            refine WQ_code ?_
            refine WC_T rfl ?_
            refine WC_seq ?_
            refine WC_region ?_
            refine WL_val rfl rfl rfl (R_assign rfl rfl) ?_
            refine WL_nil ?_
            refine WQ_code ?_
            refine WC_ret ?_
            refine WQ_ret rfl rfl (.cons (.tmp rfl) .nil) rfl (by
                first | exact ⟨congrArg Value.bool (validN_bad hu (by unfold okCh isL isD; omega)).symm, rfl⟩ | exact ⟨congrArg Value.bool (validN_len (by omega)).symm, rfl⟩ | exact ⟨congrArg Value.bool (validN_end hall (by omega)), rfl⟩) (pqZ)
          · refine WL_val rfl rfl rfl (R_move rfl rfl) ?_
            refine WL_val rfl rfl rfl (R_geq rfl rfl rfl) ?_
            refine WL_val rfl rfl rfl (R_move rfl rfl) ?_
            refine WL_splitD (s := 34) rfl (fun c23 => ?_) (fun c23 => ?_)
            · refine WL_val rfl rfl rfl (R_move rfl rfl) ?_
              refine WL_val rfl rfl rfl (R_leq rfl rfl rfl) ?_
              refine WL_val rfl rfl rfl (R_pickT rfl rfl rfl) ?_
              refine WL_val rfl rfl rfl (R_notD rfl rfl) ?_
              refine WL_val rfl rfl rfl (R_move rfl rfl) ?_
              refine WL_splitD (s := 39) rfl (fun c24 => ?_) (fun c24 => ?_)
              · refine WL_val rfl rfl rfl (R_move rfl rfl) ?_
                refine WL_val rfl rfl rfl (R_neq rfl rfl rfl) ?_
                refine WL_val rfl rfl rfl (R_pickT rfl rfl rfl) ?_
                refine WL_val rfl rfl rfl (R_move rfl rfl) ?_
                refine WL_splitD (s := 43) rfl (fun c25 => ?_) (fun c25 => ?_)
                · refine WL_val rfl rfl rfl (R_move rfl rfl) ?_
                  refine WL_val rfl rfl rfl (R_neq rfl rfl rfl) ?_
                  refine WL_val rfl rfl rfl (R_pickT rfl rfl rfl) ?_
                  refine WL_val rfl rfl rfl (R_pickF rfl rfl rfl) ?_
                  refine WL_val rfl rfl rfl (R_pickT rfl rfl rfl) ?_
                  refine WL_nil ?_
                  refine WQ_code ?_
                  refine WC_dec rfl (fun c26 => ?_) (fun c26 => ?_)
                  · refine WC_seq ?_
                    refine WC_region ?_
                    refine WL_val rfl rfl rfl (R_assign rfl rfl) ?_
                    refine WL_nil ?_
                    refine WQ_code ?_
                    refine WC_ret ?_
                    refine WQ_ret rfl rfl (.cons (.tmp rfl) .nil) rfl (by
                        first | exact ⟨congrArg Value.bool (validN_bad hu (by unfold okCh isL isD; omega)).symm, rfl⟩ | exact ⟨congrArg Value.bool (validN_len (by omega)).symm, rfl⟩ | exact ⟨congrArg Value.bool (validN_end hall (by omega)), rfl⟩) (pqZ)
                  · refine WC_skip ?_
                    refine WQ_nextF (gg := y) (y + wd) (⟨by omega, fun i u9 hi hu9 => by rcases Nat.lt_or_ge i y with h9 | h9; exact hok i u9 h9 hu9; (obtain rfl : i = y := by omega); rw [hu] at hu9; obtain rfl := Option.some.inj hu9; unfold okCh isL isD; omega⟩) (by omega) leZ (psZ) rfl (pqZ)
                · refine WL_skip rfl rfl rfl ?_
                  refine WL_skip rfl rfl rfl ?_
                  refine WL_val rfl rfl rfl (R_pickF rfl rfl rfl) ?_
                  refine WL_val rfl rfl rfl (R_pickF rfl rfl rfl) ?_
                  refine WL_val rfl rfl rfl (R_pickT rfl rfl rfl) ?_
                  refine WL_nil ?_
                  refine WQ_code ?_
                  refine WC_F rfl ?_
                  refine WC_skip ?_
                  refine WQ_nextF (gg := y) (y + wd) (⟨by omega, fun i u9 hi hu9 => by rcases Nat.lt_or_ge i y with h9 | h9; exact hok i u9 h9 hu9; (obtain rfl : i = y := by omega); rw [hu] at hu9; obtain rfl := Option.some.inj hu9; unfold okCh isL isD; omega⟩) (by omega) leZ (psZ) rfl (pqZ)
              · refine WL_skip rfl rfl rfl ?_
                refine WL_skip rfl rfl rfl ?_
                refine WL_val rfl rfl rfl (R_pickF rfl rfl rfl) ?_
                refine WL_val rfl rfl rfl (R_move rfl rfl) ?_
                refine WL_skip rfl rfl rfl ?_
                refine WL_skip rfl rfl rfl ?_
                refine WL_val rfl rfl rfl (R_pickF rfl rfl rfl) ?_
                refine WL_val rfl rfl rfl (R_pickF rfl rfl rfl) ?_
                refine WL_val rfl rfl rfl (R_pickT rfl rfl rfl) ?_
                refine WL_nil ?_
                refine WQ_code ?_
                refine WC_F rfl ?_
                refine WC_skip ?_
                refine WQ_nextF (gg := y) (y + wd) (⟨by omega, fun i u9 hi hu9 => by rcases Nat.lt_or_ge i y with h9 | h9; exact hok i u9 h9 hu9; (obtain rfl : i = y := by omega); rw [hu] at hu9; obtain rfl := Option.some.inj hu9; unfold okCh isL isD; omega⟩) (by omega) leZ (psZ) rfl (pqZ)
            · refine WL_skip rfl rfl rfl ?_
              refine WL_skip rfl rfl rfl ?_
              refine WL_val rfl rfl rfl (R_pickF rfl rfl rfl) ?_
              refine WL_val rfl rfl rfl (R_not rfl rfl) ?_
              refine WL_val rfl rfl rfl (R_move rfl rfl) ?_
              refine WL_val rfl rfl rfl (R_move rfl rfl) ?_
              refine WL_val rfl rfl rfl (R_neq rfl rfl rfl) ?_
              refine WL_val rfl rfl rfl (R_pickT rfl rfl rfl) ?_
              refine WL_val rfl rfl rfl (R_move rfl rfl) ?_
              refine WL_splitD (s := 43) rfl (fun c27 => ?_) (fun c27 => ?_)
              · refine WL_val rfl rfl rfl (R_move rfl rfl) ?_
                refine WL_val rfl rfl rfl (R_neq rfl rfl rfl) ?_
                refine WL_val rfl rfl rfl (R_pickT rfl rfl rfl) ?_
                refine WL_val rfl rfl rfl (R_pickF rfl rfl rfl) ?_
                refine WL_val rfl rfl rfl (R_pickT rfl rfl rfl) ?_
                refine WL_nil ?_
                refine WQ_code ?_
                refine WC_dec rfl (fun c28 => ?_) (fun c28 => ?_)
                · refine WC_seq ?_
                  refine WC_region ?_
                  refine WL_val rfl rfl rfl (R_assign rfl rfl) ?_
                  refine WL_nil ?_
                  refine WQ_code ?_
                  refine WC_ret ?_
                  refine WQ_ret rfl rfl (.cons (.tmp rfl) .nil) rfl (by
                      first | exact ⟨congrArg Value.bool (validN_bad hu (by unfold okCh isL isD; omega)).symm, rfl⟩ | exact ⟨congrArg Value.bool (validN_len (by omega)).symm, rfl⟩ | exact ⟨congrArg Value.bool (validN_end hall (by omega)), rfl⟩) (pqZ)
                · refine WC_skip ?_
                  refine WQ_nextF (gg := y) (y + wd) (⟨by omega, fun i u9 hi hu9 => by rcases Nat.lt_or_ge i y with h9 | h9; exact hok i u9 h9 hu9; (obtain rfl : i = y := by omega); rw [hu] at hu9; obtain rfl := Option.some.inj hu9; unfold okCh isL isD; omega⟩) (by omega) leZ (psZ) rfl (pqZ)
              · refine WL_skip rfl rfl rfl ?_
                refine WL_skip rfl rfl rfl ?_
                refine WL_val rfl rfl rfl (R_pickF rfl rfl rfl) ?_
                refine WL_val rfl rfl rfl (R_pickF rfl rfl rfl) ?_
                refine WL_val rfl rfl rfl (R_pickT rfl rfl rfl) ?_
                refine WL_nil ?_
                refine WQ_code ?_
                refine WC_F rfl ?_
                refine WC_skip ?_
                refine WQ_nextF (gg := y) (y + wd) (⟨by omega, fun i u9 hi hu9 => by rcases Nat.lt_or_ge i y with h9 | h9; exact hok i u9 h9 hu9; (obtain rfl : i = y := by omega); rw [hu] at hu9; obtain rfl := Option.some.inj hu9; unfold okCh isL isD; omega⟩) (by omega) leZ (psZ) rfl (pqZ)
        · refine WL_skip rfl rfl rfl ?_
          refine WL_skip rfl rfl rfl ?_
          refine WL_skip rfl rfl rfl ?_
          refine WL_skip rfl rfl rfl ?_
          refine WL_skip rfl rfl rfl ?_
          refine WL_skip rfl rfl rfl ?_
          refine WL_skip rfl rfl rfl ?_
          refine WL_skip rfl rfl rfl ?_
          refine WL_skip rfl rfl rfl ?_
          refine WL_skip rfl rfl rfl ?_
          refine WL_skip rfl rfl rfl ?_
          refine WL_skip rfl rfl rfl ?_
          refine WL_skip rfl rfl rfl ?_
          refine WL_skip rfl rfl rfl ?_
          refine WL_skip rfl rfl rfl ?_
          refine WL_skip rfl rfl rfl ?_
          refine WL_skip rfl rfl rfl ?_
          refine WL_skip rfl rfl rfl ?_
          refine WL_skip rfl rfl rfl ?_
          refine WL_val rfl rfl rfl (R_pickF rfl rfl rfl) ?_
          refine WL_nil ?_
          refine WQ_code ?_
          refine WC_F rfl ?_
          refine WC_skip ?_
          refine WQ_nextF (gg := y) (y + wd) (⟨by omega, fun i u9 hi hu9 => by rcases Nat.lt_or_ge i y with h9 | h9; exact hok i u9 h9 hu9; (obtain rfl : i = y := by omega); rw [hu] at hu9; obtain rfl := Option.some.inj hu9; unfold okCh isL isD; omega⟩) (by omega) leZ (psZ) rfl (pqZ)
      · refine WL_skip rfl rfl rfl ?_
        refine WL_skip rfl rfl rfl ?_
        refine WL_val rfl rfl rfl (R_pickF rfl rfl rfl) ?_
        refine WL_val rfl rfl rfl (R_pickF rfl rfl rfl) ?_
        refine WL_val rfl rfl rfl (R_assign rfl rfl) ?_
        refine WL_nil ?_
        refine WQ_code ?_
        refine WC_seq ?_
        refine WC_region ?_
        refine WL_val rfl rfl rfl (R_move rfl rfl) ?_
        refine WL_val rfl rfl rfl (R_not rfl rfl) ?_
        refine WL_val rfl rfl rfl (R_move rfl rfl) ?_
        refine WL_val rfl rfl rfl (R_move rfl rfl) ?_
        refine WL_val rfl rfl rfl (R_eql rfl rfl rfl) ?_
        refine WL_val rfl rfl rfl (R_move rfl rfl) ?_
        refine WL_splitD (s := 31) rfl (fun c29 => ?_) (fun c29 => ?_)
        · refine WL_skip rfl rfl rfl ?_
          refine WL_skip rfl rfl rfl ?_
          refine WL_skip rfl rfl rfl ?_
          refine WL_skip rfl rfl rfl ?_
          refine WL_skip rfl rfl rfl ?_
          refine WL_skip rfl rfl rfl ?_
          refine WL_skip rfl rfl rfl ?_
          refine WL_skip rfl rfl rfl ?_
          refine WL_skip rfl rfl rfl ?_
          refine WL_skip rfl rfl rfl ?_
          refine WL_skip rfl rfl rfl ?_
          refine WL_skip rfl rfl rfl ?_
          refine WL_skip rfl rfl rfl ?_
          refine WL_skip rfl rfl rfl ?_
          refine WL_skip rfl rfl rfl ?_
          refine WL_val rfl rfl rfl (R_pickT rfl rfl rfl) ?_
          refine WL_val rfl rfl rfl (R_pickT rfl rfl rfl) ?_
          refine WL_nil ?_
          refine WQ_code ?_
          refine WC_T rfl ?_
          refine WC_seq ?_
          refine WC_region ?_
          refine WL_val rfl rfl rfl (R_assign rfl rfl) ?_
          refine WL_nil ?_
          refine WQ_code ?_
          refine WC_ret ?_
          refine WQ_ret rfl rfl (.cons (.tmp rfl) .nil) rfl (by
              first | exact ⟨congrArg Value.bool (validN_bad hu (by unfold okCh isL isD; omega)).symm, rfl⟩ | exact ⟨congrArg Value.bool (validN_len (by omega)).symm, rfl⟩ | exact ⟨congrArg Value.bool (validN_end hall (by omega)), rfl⟩) (pqZ)
        · refine WL_val rfl rfl rfl (R_move rfl rfl) ?_
          refine WL_val rfl rfl rfl (R_geq rfl rfl rfl) ?_
          refine WL_val rfl rfl rfl (R_move rfl rfl) ?_
          refine WL_splitD (s := 34) rfl (fun c30 => ?_) (fun c30 => ?_)
          · refine WL_val rfl rfl rfl (R_move rfl rfl) ?_
            refine WL_val rfl rfl rfl (R_leq rfl rfl rfl) ?_
            refine WL_val rfl rfl rfl (R_pickT rfl rfl rfl) ?_
            refine WL_val rfl rfl rfl (R_notD rfl rfl) ?_
            refine WL_val rfl rfl rfl (R_move rfl rfl) ?_
            refine WL_splitD (s := 39) rfl (fun c31 => ?_) (fun c31 => ?_)
            · refine WL_val rfl rfl rfl (R_move rfl rfl) ?_
              refine WL_val rfl rfl rfl (R_neq rfl rfl rfl) ?_
              refine WL_val rfl rfl rfl (R_pickT rfl rfl rfl) ?_
              refine WL_val rfl rfl rfl (R_move rfl rfl) ?_
              refine WL_splitD (s := 43) rfl (fun c32 => ?_) (fun c32 => ?_)
              · refine WL_val rfl rfl rfl (R_move rfl rfl) ?_
                refine WL_val rfl rfl rfl (R_neq rfl rfl rfl) ?_
                refine WL_val rfl rfl rfl (R_pickT rfl rfl rfl) ?_
                refine WL_val rfl rfl rfl (R_pickF rfl rfl rfl) ?_
                refine WL_val rfl rfl rfl (R_pickT rfl rfl rfl) ?_
                refine WL_nil ?_
                refine WQ_code ?_
                refine WC_dec rfl (fun c33 => ?_) (fun c33 => ?_)
                · refine WC_seq ?_
                  refine WC_region ?_
                  refine WL_val rfl rfl rfl (R_assign rfl rfl) ?_
                  refine WL_nil ?_
                  refine WQ_code ?_
                  refine WC_ret ?_
                  refine WQ_ret rfl rfl (.cons (.tmp rfl) .nil) rfl (by
                      first | exact ⟨congrArg Value.bool (validN_bad hu (by unfold okCh isL isD; omega)).symm, rfl⟩ | exact ⟨congrArg Value.bool (validN_len (by omega)).symm, rfl⟩ | exact ⟨congrArg Value.bool (validN_end hall (by omega)), rfl⟩) (pqZ)
                · refine WC_skip ?_
                  refine WQ_nextF (gg := y) (y + wd) (⟨by omega, fun i u9 hi hu9 => by rcases Nat.lt_or_ge i y with h9 | h9; exact hok i u9 h9 hu9; (obtain rfl : i = y := by omega); rw [hu] at hu9; obtain rfl := Option.some.inj hu9; unfold okCh isL isD; omega⟩) (by omega) leZ (psZ) rfl (pqZ)
              · refine WL_skip rfl rfl rfl ?_
                refine WL_skip rfl rfl rfl ?_
                refine WL_val rfl rfl rfl (R_pickF rfl rfl rfl) ?_
                refine WL_val rfl rfl rfl (R_pickF rfl rfl rfl) ?_
                refine WL_val rfl rfl rfl (R_pickT rfl rfl rfl) ?_
                refine WL_nil ?_
                refine WQ_code ?_
                refine WC_F rfl ?_
                refine WC_skip ?_
                refine WQ_nextF (gg := y) (y + wd) (⟨by omega, fun i u9 hi hu9 => by rcases Nat.lt_or_ge i y with h9 | h9; exact hok i u9 h9 hu9; (obtain rfl : i = y := by omega); rw [hu] at hu9; obtain rfl := Option.some.inj hu9; unfold okCh isL isD; omega⟩) (by omega) leZ (psZ) rfl (pqZ)
            · refine WL_skip rfl rfl rfl ?_
              refine WL_skip rfl rfl rfl ?_
              refine WL_val rfl rfl rfl (R_pickF rfl rfl rfl) ?_
              refine WL_val rfl rfl rfl (R_move rfl rfl) ?_
              refine WL_skip rfl rfl rfl ?_
              refine WL_skip rfl rfl rfl ?_
              refine WL_val rfl rfl rfl (R_pickF rfl rfl rfl) ?_
              refine WL_val rfl rfl rfl (R_pickF rfl rfl rfl) ?_
              refine WL_val rfl rfl rfl (R_pickT rfl rfl rfl) ?_
              refine WL_nil ?_
              refine WQ_code ?_
              refine WC_F rfl ?_
              refine WC_skip ?_
              refine WQ_nextF (gg := y) (y + wd) (⟨by omega, fun i u9 hi hu9 => by rcases Nat.lt_or_ge i y with h9 | h9; exact hok i u9 h9 hu9; (obtain rfl : i = y := by omega); rw [hu] at hu9; obtain rfl := Option.some.inj hu9; unfold okCh isL isD; omega⟩) (by omega) leZ (psZ) rfl (pqZ)
          · refine WL_skip rfl rfl rfl ?_
            refine WL_skip rfl rfl rfl ?_
            refine WL_val rfl rfl rfl (R_pickF rfl rfl rfl) ?_
            refine WL_val rfl rfl rfl (R_not rfl rfl) ?_
            refine WL_val rfl rfl rfl (R_move rfl rfl) ?_
            refine WL_val rfl rfl rfl (R_move rfl rfl) ?_
            refine WL_val rfl rfl rfl (R_neq rfl rfl rfl) ?_
            refine WL_val rfl rfl rfl (R_pickT rfl rfl rfl) ?_
            refine WL_val rfl rfl rfl (R_move rfl rfl) ?_
            refine WL_splitD (s := 43) rfl (fun c34 => ?_) (fun c34 => ?_)
            · refine WL_val rfl rfl rfl (R_move rfl rfl) ?_
              refine WL_val rfl rfl rfl (R_neq rfl rfl rfl) ?_
              refine WL_val rfl rfl rfl (R_pickT rfl rfl rfl) ?_
              refine WL_val rfl rfl rfl (R_pickF rfl rfl rfl) ?_
              refine WL_val rfl rfl rfl (R_pickT rfl rfl rfl) ?_
              refine WL_nil ?_
              refine WQ_code ?_
              refine WC_dec rfl (fun c35 => ?_) (fun c35 => ?_)
              · refine WC_seq ?_
                refine WC_region ?_
                refine WL_val rfl rfl rfl (R_assign rfl rfl) ?_
                refine WL_nil ?_
                refine WQ_code ?_
                refine WC_ret ?_
                refine WQ_ret rfl rfl (.cons (.tmp rfl) .nil) rfl (by
                    first | exact ⟨congrArg Value.bool (validN_bad hu (by unfold okCh isL isD; omega)).symm, rfl⟩ | exact ⟨congrArg Value.bool (validN_len (by omega)).symm, rfl⟩ | exact ⟨congrArg Value.bool (validN_end hall (by omega)), rfl⟩) (pqZ)
              · refine WC_skip ?_
                refine WQ_nextF (gg := y) (y + wd) (⟨by omega, fun i u9 hi hu9 => by rcases Nat.lt_or_ge i y with h9 | h9; exact hok i u9 h9 hu9; (obtain rfl : i = y := by omega); rw [hu] at hu9; obtain rfl := Option.some.inj hu9; unfold okCh isL isD; omega⟩) (by omega) leZ (psZ) rfl (pqZ)
            · refine WL_skip rfl rfl rfl ?_
              refine WL_skip rfl rfl rfl ?_
              refine WL_val rfl rfl rfl (R_pickF rfl rfl rfl) ?_
              refine WL_val rfl rfl rfl (R_pickF rfl rfl rfl) ?_
              refine WL_val rfl rfl rfl (R_pickT rfl rfl rfl) ?_
              refine WL_nil ?_
              refine WQ_code ?_
              refine WC_F rfl ?_
              refine WC_skip ?_
              refine WQ_nextF (gg := y) (y + wd) (⟨by omega, fun i u9 hi hu9 => by rcases Nat.lt_or_ge i y with h9 | h9; exact hok i u9 h9 hu9; (obtain rfl : i = y := by omega); rw [hu] at hu9; obtain rfl := Option.some.inj hu9; unfold okCh isL isD; omega⟩) (by omega) leZ (psZ) rfl (pqZ)

end Go.Proofs.Ytiomimjjdbijmaa
