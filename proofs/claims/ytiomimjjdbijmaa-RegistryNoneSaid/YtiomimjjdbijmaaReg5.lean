/-
  Chapter 17 (registry), part Reg5: contracts of functions that the laws call, each for the heap it names.
-/
import Derived.Test.YtiomimjjdbijmaaRows
import Derived.Test.YtiomimjjdbijmaaZB
import Derived.Test.YtiomimjjdbijmaaSLMapJ
import Derived.Test.YtiomimjjdbijmaaSLScope
import Derived.Test.YtiomimjjdbijmaaTab
import Derived.Test.YtiomimjjdbijmaaReg4
import Derived.Test.YtiomimjjdbijmaaRegQ
set_option linter.unusedVariables false
set_option maxRecDepth 20000
set_option maxHeartbeats 2000000
namespace Go.Proofs.Ytiomimjjdbijmaa


theorem qrel_in {W : List Bd} {wo c : Nat} {tl : List Value} (own : Own (some wo) W.length c 3 (W.flatMap encBd) tl) (hl : W.length ≤ 128) (hn : (kys W).Nodup) (s : ByteArray) (p : Int) (hv : validA (s, p) = true) (i : Nat) (u : Int) (hi : W[i]? = some ((s, p), u)) : Spec Try.prog 35 [slV (some wo) W.length c, .agg #[.string s, .int .i64 p]] [⟨some wo, cl (W.flatMap encBd ++ tl) 56⟩]
    (fun x H' => ∃ o2 c2 tl2, x = .tuple #[slV o2 (delL W (s, p)).length c2, .int .i64 u, .int .i64 0] ∧ Own o2 (delL W (s, p)).length c2 3 ((delL W (s, p)).flatMap encBd) tl2 ∧ H' = [⟨o2, cl ((delL W (s, p)).flatMap encBd ++ tl2) 56⟩, ⟨some wo, cl (W.flatMap encBd ++ tl) 56⟩]) := by
  have hil := (List.getElem?_eq_some_iff.1 hi).1
  have hdl := delL_at hn hi
  refine Spec.of (E := [(0, slV (some wo) W.length c), (1, .agg #[.string s, .int .i64 p])]) Try.func35 rfl (by kernel_rfl) Try.ntmps35 rfl rfl (fun w => ?_)
  refine WC_seq ?_
  refine WC_region ?_
  refine WL_do rfl rfl rfl (D_box (cs := [_, _]) rfl rfl rfl) ?_
  rintro _ _ ⟨b1, rfl, rfl⟩
  refine WL_val rfl rfl rfl (R_assign rfl rfl) ?_
  refine WL_val rfl rfl rfl (R_assign rfl rfl) ?_
  refine WL_val rfl rfl rfl (R_assign rfl rfl) ?_
  refine WL_nil ?_
  refine WQ_code ?_
  refine WC_seq ?_
  refine WC_seq ?_
  refine WC_region ?_
  refine WL_val rfl rfl rfl (R_loadA (vs := [_, _]) rfl ag23 rfl (mmZ) rfl (atZ)) ?_
  refine WL_do rfl rfl rfl (D_call (rvalid_ok s p) rfl rfl rfl rfl (pqZ)) ?_
  rintro _ _ ⟨_, ⟨rfl, rfl⟩, rfl⟩
  refine WL_set (s := 9) (v := .bool true) rfl (by exact congrArg Value.bool hv) ?_
  refine WL_val rfl rfl rfl (R_not rfl rfl) ?_
  refine WL_nil ?_
  refine WQ_code ?_
  refine WC_F rfl ?_
  refine WC_skip ?_
  refine WQ_code ?_
  refine WC_seq ?_
  refine WC_region ?_
  refine WL_val rfl rfl rfl (R_move rfl rfl) ?_
  refine WL_val rfl rfl rfl (R_loadA (vs := [_, _]) rfl ag23 rfl (mmZ) rfl (atZ)) ?_
  refine WL_do rfl rfl rfl (D_call (qfind_ok own (by omega) s p) rfl rfl rfl rfl (pqZ)) ?_
  rintro _ _ ⟨_, ⟨v9, rfl, hv9, rfl⟩, rfl⟩
  obtain rfl : v9 = (i : Int) := by rcases hv9 with ⟨_, e⟩ | ⟨j, u2, e, hj⟩; exact absurd (in_kys (List.mem_of_getElem? hi)) e; rw [e, kys_idx hn hi hj]
  refine WL_val rfl rfl rfl (R_assign rfl rfl) ?_
  refine WL_nil ?_
  refine WQ_code ?_
  refine WC_seq ?_
  refine WC_seq ?_
  refine WC_region ?_
  refine WL_val rfl rfl rfl (R_move rfl rfl) ?_
  refine WL_val rfl rfl rfl (R_lss rfl rfl rfl) ?_
  refine WL_nil ?_
  refine WQ_code ?_
  refine WC_dec rfl (fun c1 => ?_) (fun c1 => ?_)
  · exfalso; omega
  · refine WC_none 56 ?_
    refine WC_skip ?_
    refine WQ_code ?_
    refine WC_seq ?_
    refine WC_drawR [⟨none, _⟩] [(0, true), (1, true), (2, true), (4, true), (5, true), (6, true), (7, true), (9, true), (10, true), (11, true), (12, true), (13, true), (3, false), (8, false), (14, true), (15, true), (16, true)] followsMixed rfl rfl (by kernel_rfl) (pqZ) ?_
    refine WM_val rfl rfl rfl rfl (R_move rfl rfl) ?_
    refine WM_val rfl rfl rfl rfl (R_move rfl rfl) ?_
    refine WM_val rfl rfl rfl rfl (R_sliceTo (m := i) rfl Try.underlying27 Try.sizeOf56 rfl rfl (by have := own.le; omega)) ?_
    refine WM_val rfl rfl rfl rfl (R_move rfl rfl) ?_
    refine WM_val rfl rfl rfl rfl (R_move rfl rfl) ?_
    refine WM_val rfl rfl rfl rfl (R_addR (r := ((i + 1 : Nat) : Int)) rfl rfl rfl (by rw [wrap64_in (by omega) (by omega)]; omega)) ?_
    refine WM_val rfl rfl rfl rfl (R_sliceFromK (m := i + 1) rfl Try.underlying27 Try.sizeOf56 rfl rfl (by omega)) ?_
    refine WM_val rfl rfl rfl rfl (R_move rfl rfl) ?_
    refine WM_val rfl rfl rfl rfl (R_move rfl rfl) ?_
    refine WM_val rfl rfl rfl rfl (R_indexAddrN rfl Try.underlying27 Try.sizeOf56 rfl rfl (by omega)) ?_
    refine WM_val rfl rfl rfl rfl (R_fieldAddr rfl fa56_1 rfl) ?_
    refine WM_val rfl rfl rfl rfl (R_load (v := .int .i64 u) rfl sc3 rfl (mmZ) (fm_get0 encBd3 hi (j := 2) (by omega))) ?_
    refine WM_do rfl rfl rfl rfl (D_append rfl si27 rfl (Own.empty 3) plZ rfl mmZ (at_take W i tl) (by rw [fm_length encBd3, List.length_take, Nat.min_eq_left (by omega)]) (encBd_one _) (by omega) (by omega)) ?_
    rintro _ _ ⟨o6, c6, tl6, rfl, own6, rfl⟩
    refine ⟨⟨_, pqZ⟩, ?_⟩
    refine WM_do rfl rfl rfl rfl (D_append rfl si27 rfl own6 plZ rfl mmZ (at_drop W (i + 1) c (by omega) own.le tl) (by rw [fm_length encBd3, List.length_drop]) (encBd_one _) (by omega) (by omega)) ?_
    rintro _ _ ⟨o7, c7, tl7, rfl, own7, rfl⟩
    refine ⟨⟨_, pqZ⟩, ?_⟩
    have hfl : [] ++ (W.take i).flatMap encBd ++ (W.drop (i + 1)).flatMap encBd = (delL W (s, p)).flatMap encBd := by rw [hdl, List.flatMap_append, List.nil_append]
    have hln : 0 + i + (W.length - (i + 1)) = (delL W (s, p)).length := by rw [hdl, List.length_append, List.length_take, List.length_drop]; omega
    rw [hfl, hln] at own7
    rw [hfl, hln]
    refine WM_val rfl rfl rfl rfl (R_assign rfl rfl) ?_
    refine WM_val rfl rfl rfl rfl (R_assign rfl rfl) ?_
    refine WM_val rfl rfl rfl rfl (R_assign rfl rfl) ?_
    refine WM_nil ?_
    refine WQ_code ?_
    refine WC_ret ?_
    refine WQ_ret rfl rfl (.cons (.tmp rfl) (.cons (.tmp rfl) (.cons (.tmp rfl) .nil))) rfl (by
        exact ⟨_, _, _, rfl, own7, rfl⟩) (pqZ)
theorem qrel_out {W : List Bd} {o : Option Nat} {c : Nat} {tl : List Value} (own : Own o W.length c 3 (W.flatMap encBd) tl) (hl : W.length ≤ 128) (s : ByteArray) (p : Int) (h : (lookR W (s, p)).2 ≠ 0) (hno : validA (s, p) = true → ((s, p) : Ad) ∉ kys W) : Spec Try.prog 35 [slV o W.length c, .agg #[.string s, .int .i64 p]] [⟨o, cl (W.flatMap encBd ++ tl) 56⟩] (fun x H' => x = .tuple #[slV o W.length c, .int .i64 (lookR W (s, p)).1, .int .i64 (lookR W (s, p)).2] ∧ H' = [⟨o, cl (W.flatMap encBd ++ tl) 56⟩]) := by
  refine Spec.of (E := [(0, slV o W.length c), (1, .agg #[.string s, .int .i64 p])]) Try.func35 rfl (by kernel_rfl) Try.ntmps35 rfl rfl (fun w => ?_)
  refine WC_seq ?_
  refine WC_region ?_
  refine WL_do rfl rfl rfl (D_box (cs := [_, _]) rfl rfl rfl) ?_
  rintro _ _ ⟨b1, rfl, rfl⟩
  refine WL_val rfl rfl rfl (R_assign rfl rfl) ?_
  refine WL_val rfl rfl rfl (R_assign rfl rfl) ?_
  refine WL_val rfl rfl rfl (R_assign rfl rfl) ?_
  refine WL_nil ?_
  refine WQ_code ?_
  refine WC_seq ?_
  refine WC_seq ?_
  refine WC_region ?_
  refine WL_val rfl rfl rfl (R_loadA (vs := [_, _]) rfl ag23 rfl (mmZ) rfl (atZ)) ?_
  refine WL_do rfl rfl rfl (D_call (rvalid_ok s p) rfl rfl rfl rfl (pqZ)) ?_
  rintro _ _ ⟨_, ⟨rfl, rfl⟩, rfl⟩
  refine WL_val rfl rfl rfl (R_not rfl rfl) ?_
  refine WL_nil ?_
  refine WQ_code ?_
  refine WC_if rfl (fun c1 => ?_) (fun c1 => ?_)
  · refine WC_seq ?_
    refine WC_region ?_
    refine WL_val rfl rfl rfl (R_move rfl rfl) ?_
    refine WL_val rfl rfl rfl (R_assign rfl rfl) ?_
    refine WL_val rfl rfl rfl (R_assign rfl rfl) ?_
    refine WL_val rfl rfl rfl (R_assign rfl rfl) ?_
    refine WL_nil ?_
    refine WQ_code ?_
    refine WC_ret ?_
    refine WQ_ret rfl rfl (.cons (.tmp rfl) (.cons (.tmp rfl) (.cons (.tmp rfl) .nil))) rfl (by
        first | exact ⟨by rw [look_out (by simp_all) (hno (by simp_all))]; rfl, rfl⟩ | exact ⟨by rw [look_bad (by simp_all)]; rfl, rfl⟩) (pqZ)
  · refine WC_skip ?_
    refine WQ_code ?_
    refine WC_seq ?_
    refine WC_region ?_
    refine WL_val rfl rfl rfl (R_move rfl rfl) ?_
    refine WL_val rfl rfl rfl (R_loadA (vs := [_, _]) rfl ag23 rfl (mmZ) rfl (atZ)) ?_
    refine WL_do rfl rfl rfl (D_call (qfind_ok own (by omega) s p) rfl rfl rfl rfl (pqZ)) ?_
    rintro _ _ ⟨_, ⟨v9, rfl, hv9, rfl⟩, rfl⟩
    refine WL_val rfl rfl rfl (R_assign rfl rfl) ?_
    refine WL_nil ?_
    refine WQ_code ?_
    refine WC_seq ?_
    refine WC_seq ?_
    refine WC_region ?_
    refine WL_val rfl rfl rfl (R_move rfl rfl) ?_
    refine WL_val rfl rfl rfl (R_lss rfl rfl rfl) ?_
    refine WL_nil ?_
    refine WQ_code ?_
    refine WC_dec rfl (fun c2 => ?_) (fun c2 => ?_)
    · refine WC_seq ?_
      refine WC_region ?_
      refine WL_val rfl rfl rfl (R_move rfl rfl) ?_
      refine WL_val rfl rfl rfl (R_assign rfl rfl) ?_
      refine WL_val rfl rfl rfl (R_assign rfl rfl) ?_
      refine WL_val rfl rfl rfl (R_assign rfl rfl) ?_
      refine WL_nil ?_
      refine WQ_code ?_
      refine WC_ret ?_
      refine WQ_ret rfl rfl (.cons (.tmp rfl) (.cons (.tmp rfl) (.cons (.tmp rfl) .nil))) rfl (by
          first | exact ⟨by rw [look_out (by simp_all) (hno (by simp_all))]; rfl, rfl⟩ | exact ⟨by rw [look_bad (by simp_all)]; rfl, rfl⟩) (pqZ)
    · exfalso; rcases hv9 with ⟨e, _⟩ | ⟨j, u2, e, hj⟩; omega; exact hno (by simp_all) (in_kys (List.mem_of_getElem? hj))

end Go.Proofs.Ytiomimjjdbijmaa
