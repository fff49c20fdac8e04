/-
  Chapter 17 (registry), part Reg4: contracts of functions that the laws call, each for the heap it names.
-/
import Derived.Test.YtiomimjjdbijmaaRows
import Derived.Test.YtiomimjjdbijmaaZB
import Derived.Test.YtiomimjjdbijmaaSLMapJ
import Derived.Test.YtiomimjjdbijmaaSLScope
import Derived.Test.YtiomimjjdbijmaaTab
import Derived.Test.YtiomimjjdbijmaaAddr
import Derived.Test.YtiomimjjdbijmaaAddrKey
import Derived.Test.YtiomimjjdbijmaaRegB
import Derived.Test.YtiomimjjdbijmaaSLIn
set_option linter.unusedVariables false
set_option maxRecDepth 20000
set_option maxHeartbeats 2000000
namespace Go.Proofs.Ytiomimjjdbijmaa


theorem kys_idx {W : List Bd} (hn : (kys W).Nodup) {a : Ad} {i j : Nat} {u v : Int} (h1 : W[i]? = some (a, u)) (h2 : W[j]? = some (a, v)) : i = j := by
  have e1 : (kys W)[i]? = some a := by unfold kys; rw [List.getElem?_map, h1]; rfl
  have e2 : (kys W)[j]? = some a := by unfold kys; rw [List.getElem?_map, h2]; rfl
  obtain ⟨l1, q1⟩ := List.getElem?_eq_some_iff.1 e1
  obtain ⟨l2, q2⟩ := List.getElem?_eq_some_iff.1 e2
  exact (List.getElem_inj hn).1 (q1.trans q2.symm)
theorem qfind_ok {W : List Bd} {o : Option Nat} {c : Nat} {tl : List Value} (own : Own o W.length c 3 (W.flatMap encBd) tl) (hb : W.length ≤ 1000000) (s : ByteArray) (p : Int) : Spec Try.prog 27 [slV o W.length c, .agg #[.string s, .int .i64 p]] [⟨o, cl (W.flatMap encBd ++ tl) 56⟩] (fun x H' => ∃ v : Int, x = .int .i64 v ∧ ((v = -1 ∧ ((s, p) : Ad) ∉ kys W) ∨ ∃ (i : Nat) (u : Int), v = (i : Int) ∧ W[i]? = some ((s, p), u)) ∧ H' = [⟨o, cl (W.flatMap encBd ++ tl) 56⟩]) := by
  refine Spec.of (E := [(0, slV o W.length c), (1, .agg #[.string s, .int .i64 p])]) Try.func27 rfl (by kernel_rfl) Try.ntmps27 rfl rfl (fun w => ?_)
  refine WC_seq ?_
  refine WC_region ?_
  refine WL_do rfl rfl rfl (D_box (cs := [_, _]) rfl rfl rfl) ?_
  rintro _ _ ⟨b1, rfl, rfl⟩
  refine WL_val rfl rfl rfl (R_assign rfl rfl) ?_
  refine WL_nil ?_
  refine WQ_code ?_
  refine WC_seq ?_
  refine WC_seq ?_
  refine WC_region ?_
  refine WL_val rfl rfl rfl (R_assign rfl rfl) ?_
  refine WL_nil ?_
  refine WQ_code ?_
  refine WC_block ?_
  refine WC_loopF (G := Nat) [4, 5, 6, 7, 8, 9, 10, 11, 12, 13, 14, 15, 16, 17, 18, 19] (fun y => y ≤ W.length ∧ ∀ (j : Nat) (z : Bd), j < y → W[j]? = some z → z.1 ≠ (s, p)) (fun y => [(5, .int .i64 (y : Int))]) (fun y => []) (fun y => W.length - y) (0) (⟨Nat.zero_le _, fun j z hj => absurd hj (Nat.not_lt_zero j)⟩) leZ (pqZ) ?_
  rintro y ⟨hy, hjs⟩
  refine WC_seq ?_
  refine WC_seq ?_
  refine WC_region ?_
  refine WL_val rfl rfl rfl (R_move rfl rfl) ?_
  refine WL_val rfl rfl rfl (R_move rfl rfl) ?_
  refine WL_val rfl rfl rfl (R_len rfl Try.underlying27 rfl) ?_
  refine WL_val rfl rfl rfl (R_lss rfl rfl rfl) ?_
  refine WL_nil ?_
  refine WQ_code ?_
  refine WC_dec rfl (fun c1 => ?_) (fun c1 => ?_)
  · refine WC_skip ?_
    refine WQ_code ?_
    refine WC_seq ?_
    refine WC_block ?_
    refine WC_seq ?_
    refine WC_draw _ [(0, true), (1, true), (2, true), (3, true), (4, true), (5, true), (6, true)] followsMixed rfl rfl (by kernel_rfl) .all ?_
    obtain ⟨x9, hx9⟩ := getE (T := W) (i := y) (by omega)
    obtain ⟨w9, ho9⟩ := own.some_of (by omega)
    refine WM_val rfl rfl rfl rfl (R_move rfl rfl) ?_
    refine WM_val rfl rfl rfl rfl (R_move rfl rfl) ?_
    refine WM_val rfl rfl rfl rfl (R_idxO ho9 rfl Try.underlying27 Try.sizeOf56 rfl rfl (by omega)) ?_
    refine WM_val rfl rfl rfl rfl (R_fieldAddr rfl fa56_0 rfl) ?_
    refine WM_val rfl rfl rfl rfl (R_loadAO (vs := [.string x9.1.1, .int .i64 x9.1.2]) ho9 rfl ag23 rfl (mmZ) rfl (fm_at0 encBd3 hx9 (j := 0) (vs := [.string x9.1.1, .int .i64 x9.1.2]) (fun j v h => by rcases j with _ | _ | j; exact h; exact h; simp at h) (Nat.le_of_ble_eq_true rfl))) ?_
    refine WM_val rfl rfl rfl rfl (R_loadA (vs := [_, _]) rfl ag23 rfl (mmZ) rfl (atZ)) ?_
    refine WM_val rfl rfl rfl rfl (R_seq23 rfl rfl rfl rfl) ?_
    refine WM_nil ?_
    refine WQ_code ?_
    refine WC_dec rfl (fun c2 => ?_) (fun c2 => ?_)
    · have hq9 := c2
      refine WC_seq ?_
      refine WC_region ?_
      refine WL_val rfl rfl rfl (R_move rfl rfl) ?_
      refine WL_val rfl rfl rfl (R_assign rfl rfl) ?_
      refine WL_nil ?_
      refine WQ_code ?_
      refine WC_ret ?_
      refine WQ_ret rfl rfl (.cons (.tmp rfl) .nil) rfl (by
          first | exact ⟨_, rfl, .inr ⟨y, x9.2, rfl, by rw [hx9, ← hq9.1, ← hq9.2]⟩, rfl⟩ | exact ⟨_, rfl, .inl ⟨rfl, fun h => by obtain ⟨z, hz, e⟩ := List.mem_map.1 h; obtain ⟨j, hj⟩ := List.mem_iff_getElem?.1 hz; exact hjs j z (by have := (List.getElem?_eq_some_iff.1 hj).1; omega) hj e⟩, rfl⟩) (pqZ)
    · refine WC_skip ?_
      refine WQ_code ?_
      refine WC_region ?_
      refine WL_val rfl rfl rfl (R_move rfl rfl) ?_
      refine WL_val rfl rfl rfl (R_add rfl rfl rfl (by omega)) ?_
      refine WL_val rfl rfl rfl (R_assign rfl rfl) ?_
      refine WL_nil ?_
      refine WQ_nextF (gg := y) (y + 1) (⟨by omega, fun j z hj hz => by rcases Nat.lt_or_ge j y with h9 | h9; exact hjs j z h9 hz; (obtain rfl : j = y := by omega); rw [hx9] at hz; obtain rfl := Option.some.inj hz; intro e9; simp_all⟩) (by omega) leZ (psZ) rfl (pqZ)
  · refine WC_exit ?_
    refine WQ_code ?_
    refine WC_seq ?_
    refine WC_region ?_
    refine WL_val rfl rfl rfl (R_assign rfl rfl) ?_
    refine WL_nil ?_
    refine WQ_code ?_
    refine WC_ret ?_
    refine WQ_ret rfl rfl (.cons (.tmp rfl) .nil) rfl (by
        first | exact ⟨_, rfl, .inr ⟨y, x9.2, rfl, by rw [hx9, ← hq9.1, ← hq9.2]⟩, rfl⟩ | exact ⟨_, rfl, .inl ⟨rfl, fun h => by obtain ⟨z, hz, e⟩ := List.mem_map.1 h; obtain ⟨j, hj⟩ := List.mem_iff_getElem?.1 hz; exact hjs j z (by have := (List.getElem?_eq_some_iff.1 hj).1; omega) hj e⟩, rfl⟩) (pqZ)
theorem qfree_ok {W : List Bd} {o : Option Nat} {c : Nat} {tl : List Value} (own : Own o W.length c 3 (W.flatMap encBd) tl) (hl : W.length ≤ 128) (name : ByteArray) : Spec Try.prog 26 [slV o W.length c, .string name] [⟨o, cl (W.flatMap encBd ++ tl) 56⟩] (fun x H' => x = .int .i64 ((49152 + frN W name : Nat) : Int) ∧ H' = [⟨o, cl (W.flatMap encBd ++ tl) 56⟩]) := by
  obtain ⟨hf1, hf2⟩ := frN_out hl name
  refine Spec.of (E := [(0, slV o W.length c), (1, .string name)]) Try.func26 rfl (by kernel_rfl) Try.ntmps26 rfl rfl (fun w => ?_)
  refine WC_seq ?_
  refine WC_region ?_
  refine WL_val rfl rfl rfl (R_assign rfl rfl) ?_
  refine WL_nil ?_
  refine WQ_code ?_
  refine WC_seq ?_
  refine WC_region ?_
  refine WL_val rfl rfl rfl (R_assign rfl rfl) ?_
  refine WL_nil ?_
  refine WQ_code ?_
  refine WC_seq ?_
  refine WC_block ?_
  refine WC_loopF (G := Nat) [5, 6, 7, 8, 9, 10, 11, 12, 13] (fun y => y ≤ frN W name ∧ ∀ j, j < y → fpt name j ∈ kys W) (fun y => [(5, .int .i64 ((49152 + y : Nat) : Int))]) (fun y => []) (fun y => frN W name - y) (0) (⟨Nat.zero_le _, fun j hj => absurd hj (Nat.not_lt_zero j)⟩) leZ (pqZ) ?_
  rintro y ⟨hy, hjs⟩
  refine WC_seq ?_
  refine WC_seq ?_
  refine WC_region ?_
  refine WL_val rfl rfl rfl (R_move rfl rfl) ?_
  refine WL_val rfl rfl rfl (R_move rfl rfl) ?_
  refine WL_val rfl rfl rfl (R_move rfl rfl) ?_
  refine WL_val rfl rfl rfl (R_build rfl zv23 pl23 rfl rfl) ?_
  refine WL_do rfl rfl rfl (D_call (qfind_ok own (by omega) name ((49152 + y : Nat) : Int)) rfl rfl rfl rfl (pqZ)) ?_
  rintro _ _ ⟨_, ⟨v9, rfl, hv9, rfl⟩, rfl⟩
  refine WL_val rfl rfl rfl (R_geq rfl rfl rfl) ?_
  refine WL_nil ?_
  refine WQ_code ?_
  refine WC_dec rfl (fun c1 => ?_) (fun c1 => ?_)
  · have hin9 : fpt name y ∈ kys W := by rcases hv9 with ⟨e, _⟩ | ⟨i, u, _, hi⟩; omega; exact in_kys (List.mem_of_getElem? hi)
    have hne9 : y ≠ frN W name := fun e => hf2 (by rw [← e]; exact hin9)
    refine WC_skip ?_
    refine WQ_code ?_
    refine WC_block ?_
    refine WC_region ?_
    refine WL_val rfl rfl rfl (R_move rfl rfl) ?_
    refine WL_val rfl rfl rfl (R_add rfl rfl rfl (by omega)) ?_
    refine WL_val rfl rfl rfl (R_assign rfl rfl) ?_
    refine WL_nil ?_
    refine WQ_nextF (gg := y) (y + 1) (⟨by omega, fun j hj => by rcases Nat.lt_or_ge j y with h9 | h9; exact hjs j h9; (obtain rfl : j = y := by omega); exact hin9⟩) (by omega) leZ (psZ) rfl (pqZ)
  · have hno9 : fpt name y ∉ kys W := by rcases hv9 with ⟨_, e⟩ | ⟨i, u, e, hi⟩; exact e; omega
    refine WC_exit ?_
    refine WQ_code ?_
    refine WC_seq ?_
    refine WC_region ?_
    refine WL_val rfl rfl rfl (R_move rfl rfl) ?_
    refine WL_val rfl rfl rfl (R_assign rfl rfl) ?_
    refine WL_nil ?_
    refine WQ_code ?_
    refine WC_ret ?_
    refine WQ_ret rfl rfl (.cons (.tmp rfl) .nil) rfl (by
        exact ⟨by rw [frN_eq (by omega) hjs hno9]; rfl, rfl⟩) (pqZ)

end Go.Proofs.Ytiomimjjdbijmaa
