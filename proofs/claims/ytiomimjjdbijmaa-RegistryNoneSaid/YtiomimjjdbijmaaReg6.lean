/-
  Chapter 17 (registry), part Reg6: contracts of functions that the laws call, each for the heap it names.
-/
import Derived.Test.YtiomimjjdbijmaaRows
import Derived.Test.YtiomimjjdbijmaaZB
import Derived.Test.YtiomimjjdbijmaaSLMapJ
import Derived.Test.YtiomimjjdbijmaaSLScope
import Derived.Test.YtiomimjjdbijmaaTab
import Derived.Test.YtiomimjjdbijmaaReg5
set_option linter.unusedVariables false
set_option maxRecDepth 20000
set_option maxHeartbeats 4000000
namespace Go.Proofs.Ytiomimjjdbijmaa


theorem qlook_in {W : List Bd} {wo c : Nat} {tl : List Value} (own : Own (some wo) W.length c 3 (W.flatMap encBd) tl) (hl : W.length ≤ 128) (hn : (kys W).Nodup) (s : ByteArray) (p : Int) (hv : validA (s, p) = true) (i : Nat) (u : Int) (hi : W[i]? = some ((s, p), u)) : Spec Try.prog 36 [slV (some wo) W.length c, .agg #[.string s, .int .i64 p]] [⟨some wo, cl (W.flatMap encBd ++ tl) 56⟩]
    (fun x H' => x = .tuple #[.int .i64 (lookR W (s, p)).1, .int .i64 (lookR W (s, p)).2] ∧ H' = [⟨some wo, cl (W.flatMap encBd ++ tl) 56⟩]) := by
  have hlk := look_in hn hv (List.mem_of_getElem? hi)
  refine Spec.of (E := [(0, slV (some wo) W.length c), (1, .agg #[.string s, .int .i64 p])]) Try.func36 rfl (by kernel_rfl) Try.ntmps36 rfl rfl (fun w => ?_)
  refine WC_seq ?_
  refine WC_region ?_
  refine WL_do rfl rfl rfl (D_box (cs := [_, _]) rfl rfl rfl) ?_
  rintro _ _ ⟨b1, rfl, rfl⟩
  refine WL_val rfl rfl rfl (R_assign rfl rfl) ?_
  refine WL_val rfl rfl rfl (R_assign rfl rfl) ?_
  refine WL_nil ?_
  refine WQ_code ?_
  refine WC_seq ?_
  refine WC_region ?_
  refine WL_val rfl rfl rfl (R_move rfl rfl) ?_
  refine WL_val rfl rfl rfl (R_loadA (vs := [_, _]) rfl ag23 rfl (mmZ) rfl (atZ)) ?_
  refine WL_do rfl rfl rfl (D_call (qrel_in own hl hn s p hv i u hi) rfl rfl rfl rfl (pqZ)) ?_
  rintro _ _ ⟨_, ⟨o2, c2, tl2, rfl, own2, rfl⟩, rfl⟩
  refine WL_val rfl rfl rfl (R_move rfl rfl) ?_
  refine WL_val rfl rfl rfl (R_extract rfl rfl rfl) ?_
  refine WL_val rfl rfl rfl (R_extract rfl rfl rfl) ?_
  refine WL_val rfl rfl rfl (R_extract rfl rfl rfl) ?_
  refine WL_val rfl rfl rfl (R_assign rfl rfl) ?_
  refine WL_val rfl rfl rfl (R_assign rfl rfl) ?_
  refine WL_val rfl rfl rfl (R_assign rfl rfl) ?_
  refine WL_nil ?_
  refine WQ_code ?_
  refine WC_seq ?_
  refine WC_region ?_
  refine WL_val rfl rfl rfl (R_move rfl rfl) ?_
  refine WL_val rfl rfl rfl (R_move rfl rfl) ?_
  refine WL_val rfl rfl rfl (R_assign rfl rfl) ?_
  refine WL_val rfl rfl rfl (R_assign rfl rfl) ?_
  refine WL_nil ?_
  refine WQ_code ?_
  refine WC_ret ?_
  refine WQ_ret rfl rfl (.cons (.tmp rfl) (.cons (.tmp rfl) .nil)) rfl (by
      exact ⟨by rw [hlk]; rfl, rfl⟩) (pqZ)
theorem qlook_out {W : List Bd} {o : Option Nat} {c : Nat} {tl : List Value} (own : Own o W.length c 3 (W.flatMap encBd) tl) (hl : W.length ≤ 128) (s : ByteArray) (p : Int) (h : (lookR W (s, p)).2 ≠ 0) (hno : validA (s, p) = true → ((s, p) : Ad) ∉ kys W) : Spec Try.prog 36 [slV o W.length c, .agg #[.string s, .int .i64 p]] [⟨o, cl (W.flatMap encBd ++ tl) 56⟩] (fun x H' => x = .tuple #[.int .i64 (lookR W (s, p)).1, .int .i64 (lookR W (s, p)).2] ∧ H' = [⟨o, cl (W.flatMap encBd ++ tl) 56⟩]) := by
  refine Spec.of (E := [(0, slV o W.length c), (1, .agg #[.string s, .int .i64 p])]) Try.func36 rfl (by kernel_rfl) Try.ntmps36 rfl rfl (fun w => ?_)
  refine WC_seq ?_
  refine WC_region ?_
  refine WL_do rfl rfl rfl (D_box (cs := [_, _]) rfl rfl rfl) ?_
  rintro _ _ ⟨b1, rfl, rfl⟩
  refine WL_val rfl rfl rfl (R_assign rfl rfl) ?_
  refine WL_val rfl rfl rfl (R_assign rfl rfl) ?_
  refine WL_nil ?_
  refine WQ_code ?_
  refine WC_seq ?_
  refine WC_region ?_
  refine WL_val rfl rfl rfl (R_move rfl rfl) ?_
  refine WL_val rfl rfl rfl (R_loadA (vs := [_, _]) rfl ag23 rfl (mmZ) rfl (atZ)) ?_
  refine WL_do rfl rfl rfl (D_call (qrel_out own hl s p h hno) rfl rfl rfl rfl (pqZ)) ?_
  rintro _ _ ⟨_, ⟨rfl, rfl⟩, rfl⟩
  refine WL_val rfl rfl rfl (R_move rfl rfl) ?_
  refine WL_val rfl rfl rfl (R_extract rfl rfl rfl) ?_
  refine WL_val rfl rfl rfl (R_extract rfl rfl rfl) ?_
  refine WL_val rfl rfl rfl (R_extract rfl rfl rfl) ?_
  refine WL_val rfl rfl rfl (R_assign rfl rfl) ?_
  refine WL_val rfl rfl rfl (R_assign rfl rfl) ?_
  refine WL_val rfl rfl rfl (R_assign rfl rfl) ?_
  refine WL_nil ?_
  refine WQ_code ?_
  refine WC_seq ?_
  refine WC_region ?_
  refine WL_val rfl rfl rfl (R_move rfl rfl) ?_
  refine WL_val rfl rfl rfl (R_move rfl rfl) ?_
  refine WL_val rfl rfl rfl (R_assign rfl rfl) ?_
  refine WL_val rfl rfl rfl (R_assign rfl rfl) ?_
  refine WL_nil ?_
  refine WQ_code ?_
  refine WC_ret ?_
  refine WQ_ret rfl rfl (.cons (.tmp rfl) (.cons (.tmp rfl) .nil)) rfl (by
      exact ⟨rfl, rfl⟩) (pqZ)
theorem qlook_ok {W : List Bd} {o : Option Nat} {c : Nat} {tl : List Value} (own : Own o W.length c 3 (W.flatMap encBd) tl) (hl : W.length ≤ 128) (hn : (kys W).Nodup) (s : ByteArray) (p : Int) : Spec Try.prog 36 [slV o W.length c, .agg #[.string s, .int .i64 p]] [⟨o, cl (W.flatMap encBd ++ tl) 56⟩] (fun x H' => x = .tuple #[.int .i64 (lookR W (s, p)).1, .int .i64 (lookR W (s, p)).2] ∧ H' = [⟨o, cl (W.flatMap encBd ++ tl) 56⟩]) := by
  by_cases hv : validA (s, p) = true
  · rcases look_or W (s, p) with ⟨u, hu⟩ | hu
    · obtain ⟨i, hi⟩ := List.mem_iff_getElem?.1 hu
      obtain ⟨wo, rfl⟩ := own.some_of (by have := (List.getElem?_eq_some_iff.1 hi).1; omega)
      exact qlook_in own hl hn s p hv i u hi
    · exact qlook_out own hl s p (by rw [look_out hv hu]; decide) (fun _ => hu)
  · exact qlook_out own hl s p (by rw [look_bad (by simpa using hv)]; decide) (fun h => absurd h hv)
theorem qbind_some {W : List Bd} {wo c : Nat} {tl : List Value} (own : Own (some wo) W.length c 3 (W.flatMap encBd) tl) (hl : W.length ≤ 128) (s : ByteArray) (p v : Int) : Spec Try.prog 10 [slV (some wo) W.length c, .agg #[.string s, .int .i64 p], .int .i64 v] [⟨some wo, cl (W.flatMap encBd ++ tl) 56⟩] (fun x H' => ∃ o2 c2 tl2, x = .tuple #[slV o2 (bndW W (s, p) v).length c2, adV (bndR W (s, p) v), .int .i64 (bndE W (s, p) v)] ∧ Own o2 (bndW W (s, p) v).length c2 3 ((bndW W (s, p) v).flatMap encBd) tl2 ∧ H' = [⟨o2, cl ((bndW W (s, p) v).flatMap encBd ++ tl2) 56⟩]) := by
  refine Spec.of (E := [(0, slV (some wo) W.length c), (1, .agg #[.string s, .int .i64 p]), (2, .int .i64 v)]) Try.func10 rfl (by kernel_rfl) Try.ntmps10 rfl rfl (fun w => ?_)
  refine WC_seq ?_
  refine WC_region ?_
  refine WL_do rfl rfl rfl (D_box (cs := [_, _]) rfl rfl rfl) ?_
  rintro _ _ ⟨b1, rfl, rfl⟩
  refine WL_val rfl rfl rfl (R_assign rfl rfl) ?_
  refine WL_do rfl rfl rfl (D_alloc rfl zv23) ?_
  rintro _ _ ⟨b2, rfl, rfl⟩
  refine WL_val rfl rfl rfl (R_assign rfl rfl) ?_
  refine WL_nil ?_
  refine WQ_code ?_
  refine WC_seq ?_
  refine WC_seq ?_
  refine WC_region ?_
  refine WL_val rfl rfl rfl (R_loadA (vs := [_, _]) rfl ag23 rfl (mmZ) rfl (atZ)) ?_
  refine WL_do rfl rfl rfl (D_call (rvalid_ok s p) rfl rfl rfl rfl (pqZ)) ?_
  rintro _ _ ⟨_, ⟨rfl, rfl⟩, rfl⟩
  refine WL_val rfl rfl rfl (R_not rfl rfl) ?_
  refine WL_val rfl rfl rfl (R_move rfl rfl) ?_
  refine WL_split (s := 14) rfl (fun c1 => ?_) (fun c1 => ?_)
  · refine WL_skip rfl rfl rfl ?_
    refine WL_skip rfl rfl rfl ?_
    refine WL_val rfl rfl rfl (R_pickT rfl rfl rfl) ?_
    refine WL_nil ?_
    refine WQ_code ?_
    refine WC_T rfl ?_
    refine WC_seq ?_
    refine WC_region ?_
    refine WL_val rfl rfl rfl (R_move rfl rfl) ?_
    refine WL_val rfl rfl rfl (R_build rfl zv23 pl23 rfl rfl) ?_
    refine WL_val rfl rfl rfl (R_assign rfl rfl) ?_
    refine WL_do0 rfl rfl (D_store (vs := [_, _]) rfl Try.sizeOf23 rfl rfl rfl rfl rfl (plZ) (by exact Nat.le_of_ble_eq_true rfl)) ?_
    rintro _ _ rfl
    refine WL_val rfl rfl rfl (R_assign rfl rfl) ?_
    refine WL_nil ?_
    refine WQ_code ?_
    refine WC_ret ?_
    refine WQ_ret rfl rfl (.cons (.tmp rfl) (.cons (.cell (vs := [_, _]) rfl ag23 (mmZ) rfl (atZ)) (.cons (.tmp rfl) .nil))) rfl (by
        exact ⟨_, _, _, by rw [(bnd_arg (by simp_all)).1, (bnd_arg (by simp_all)).2.1, (bnd_arg (by simp_all)).2.2]; rfl, by rw [(bnd_arg (by simp_all)).2.1]; exact own, by rw [(bnd_arg (by simp_all)).2.1]⟩) (pqZ)
  · refine WL_val rfl rfl rfl (R_move rfl rfl) ?_
    refine WL_val rfl rfl rfl (R_lss rfl rfl rfl) ?_
    refine WL_val rfl rfl rfl (R_pickF rfl rfl rfl) ?_
    refine WL_nil ?_
    refine WQ_code ?_
    refine WC_dec rfl (fun c2 => ?_) (fun c2 => ?_)
    · refine WC_seq ?_
      refine WC_region ?_
      refine WL_val rfl rfl rfl (R_move rfl rfl) ?_
      refine WL_val rfl rfl rfl (R_build rfl zv23 pl23 rfl rfl) ?_
      refine WL_val rfl rfl rfl (R_assign rfl rfl) ?_
      refine WL_do0 rfl rfl (D_store (vs := [_, _]) rfl Try.sizeOf23 rfl rfl rfl rfl rfl (plZ) (by exact Nat.le_of_ble_eq_true rfl)) ?_
      rintro _ _ rfl
      refine WL_val rfl rfl rfl (R_assign rfl rfl) ?_
      refine WL_nil ?_
      refine WQ_code ?_
      refine WC_ret ?_
      refine WQ_ret rfl rfl (.cons (.tmp rfl) (.cons (.cell (vs := [_, _]) rfl ag23 (mmZ) rfl (atZ)) (.cons (.tmp rfl) .nil))) rfl (by
          exact ⟨_, _, _, by rw [(bnd_arg (by simp_all)).1, (bnd_arg (by simp_all)).2.1, (bnd_arg (by simp_all)).2.2]; rfl, by rw [(bnd_arg (by simp_all)).2.1]; exact own, by rw [(bnd_arg (by simp_all)).2.1]⟩) (pqZ)
    · refine WC_skip ?_
      refine WQ_code ?_
      refine WC_seq ?_
      refine WC_seq ?_
      refine WC_region ?_
      refine WL_val rfl rfl rfl (R_fieldAddr rfl fa23_1 rfl) ?_
      refine WL_val rfl rfl rfl (R_load rfl sc3 rfl (mmZ) rfl) ?_
      refine WL_val rfl rfl rfl (R_eql rfl rfl rfl) ?_
      refine WL_nil ?_
      refine WQ_code ?_
      refine WC_dec rfl (fun c3 => ?_) (fun c3 => ?_)
      · have hk9 : bndA W (s, p) = (s, ((49152 + frN W s : Nat) : Int)) := bndA_0 (by assumption)
        · refine WC_region ?_
          refine WL_val rfl rfl rfl (R_move rfl rfl) ?_
          refine WL_val rfl rfl rfl (R_fieldAddr rfl fa23_0 rfl) ?_
          refine WL_val rfl rfl rfl (R_load rfl sc9 rfl (mmZ) rfl) ?_
          refine WL_do rfl rfl rfl (D_call (qfree_ok own hl s) rfl rfl rfl rfl (pqZ)) ?_
          rintro _ _ ⟨_, ⟨rfl, rfl⟩, rfl⟩
          refine WL_val rfl rfl rfl (R_fieldAddr rfl fa23_1 rfl) ?_
          refine WL_do0 rfl rfl (D_store (vs := [_]) rfl Try.sizeOf3 rfl rfl rfl rfl rfl (plZ) (by exact Nat.le_of_ble_eq_true rfl)) ?_
          rintro _ _ rfl
          refine WL_nil ?_
          refine WQ_code ?_
          refine WC_seq ?_
          refine WC_seq ?_
          refine WC_region ?_
          refine WL_val rfl rfl rfl (R_move rfl rfl) ?_
          refine WL_val rfl rfl rfl (R_loadA (vs := [_, _]) rfl ag23 rfl (mmZ) rfl (atZ)) ?_
          refine WL_do rfl rfl rfl (D_call (qfind_ok own (by omega) s ((49152 + frN W s : Nat) : Int)) rfl rfl rfl rfl (pqZ)) ?_
          rintro _ _ ⟨_, ⟨v9, rfl, hv9, rfl⟩, rfl⟩
          refine WL_val rfl rfl rfl (R_geq rfl rfl rfl) ?_
          refine WL_nil ?_
          refine WQ_code ?_
          refine WC_dec rfl (fun c4 => ?_) (fun c4 => ?_)
          · refine WC_seq ?_
            refine WC_region ?_
            refine WL_val rfl rfl rfl (R_move rfl rfl) ?_
            refine WL_val rfl rfl rfl (R_build rfl zv23 pl23 rfl rfl) ?_
            refine WL_val rfl rfl rfl (R_assign rfl rfl) ?_
            refine WL_do0 rfl rfl (D_store (vs := [_, _]) rfl Try.sizeOf23 rfl rfl rfl rfl rfl (plZ) (by exact Nat.le_of_ble_eq_true rfl)) ?_
            rintro _ _ rfl
            refine WL_val rfl rfl rfl (R_assign rfl rfl) ?_
            refine WL_nil ?_
            refine WQ_code ?_
            refine WC_ret ?_
            refine WQ_ret rfl rfl (.cons (.tmp rfl) (.cons (.cell (vs := [_, _]) rfl ag23 (mmZ) rfl (atZ)) (.cons (.tmp rfl) .nil))) rfl (by
                first | (have h9 := bnd_busy (W := W) (a := (s, p)) (v := v) (by simp_all) (by omega) (by rw [hk9]; rcases hv9 with ⟨e, _⟩ | ⟨i, u, _, hi⟩; omega; exact in_kys (List.mem_of_getElem? hi)); exact ⟨_, _, _, by rw [h9.1, h9.2.1, h9.2.2]; rfl, by rw [h9.2.1]; exact own, by rw [h9.2.1]⟩) | (have h9 := bnd_full (W := W) (a := (s, p)) (v := v) (by simp_all) (by omega) (by rw [hk9]; exact hno9) (by omega); exact ⟨_, _, _, by rw [h9.1, h9.2.1, h9.2.2]; rfl, by rw [h9.2.1]; exact own, by rw [h9.2.1]⟩) | (have h9 := bnd_ok (W := W) (a := (s, p)) (v := v) (by simp_all) (by omega) (by rw [hk9]; exact hno9) (by omega); rw [hk9] at h9; exact ⟨_, _, _, by rw [h9.1, h9.2.1, h9.2.2]; rfl, by rw [h9.2.1]; exact own7, by rw [h9.2.1]⟩)) (pqZ)
          · have hno9 : ((s, ((49152 + frN W s : Nat) : Int)) : Ad) ∉ kys W := by rcases hv9 with ⟨_, e⟩ | ⟨i, u, e, hi⟩; exact e; omega
            refine WC_skip ?_
            refine WQ_code ?_
            refine WC_seq ?_
            refine WC_seq ?_
            refine WC_region ?_
            refine WL_val rfl rfl rfl (R_move rfl rfl) ?_
            refine WL_val rfl rfl rfl (R_len rfl Try.underlying27 rfl) ?_
            refine WL_val rfl rfl rfl (R_geq rfl rfl rfl) ?_
            refine WL_nil ?_
            refine WQ_code ?_
            refine WC_dec rfl (fun c5 => ?_) (fun c5 => ?_)
            · refine WC_seq ?_
              refine WC_region ?_
              refine WL_val rfl rfl rfl (R_move rfl rfl) ?_
              refine WL_val rfl rfl rfl (R_build rfl zv23 pl23 rfl rfl) ?_
              refine WL_val rfl rfl rfl (R_assign rfl rfl) ?_
              refine WL_do0 rfl rfl (D_store (vs := [_, _]) rfl Try.sizeOf23 rfl rfl rfl rfl rfl (plZ) (by exact Nat.le_of_ble_eq_true rfl)) ?_
              rintro _ _ rfl
              refine WL_val rfl rfl rfl (R_assign rfl rfl) ?_
              refine WL_nil ?_
              refine WQ_code ?_
              refine WC_ret ?_
              refine WQ_ret rfl rfl (.cons (.tmp rfl) (.cons (.cell (vs := [_, _]) rfl ag23 (mmZ) rfl (atZ)) (.cons (.tmp rfl) .nil))) rfl (by
                  first | (have h9 := bnd_busy (W := W) (a := (s, p)) (v := v) (by simp_all) (by omega) (by rw [hk9]; rcases hv9 with ⟨e, _⟩ | ⟨i, u, _, hi⟩; omega; exact in_kys (List.mem_of_getElem? hi)); exact ⟨_, _, _, by rw [h9.1, h9.2.1, h9.2.2]; rfl, by rw [h9.2.1]; exact own, by rw [h9.2.1]⟩) | (have h9 := bnd_full (W := W) (a := (s, p)) (v := v) (by simp_all) (by omega) (by rw [hk9]; exact hno9) (by omega); exact ⟨_, _, _, by rw [h9.1, h9.2.1, h9.2.2]; rfl, by rw [h9.2.1]; exact own, by rw [h9.2.1]⟩) | (have h9 := bnd_ok (W := W) (a := (s, p)) (v := v) (by simp_all) (by omega) (by rw [hk9]; exact hno9) (by omega); rw [hk9] at h9; exact ⟨_, _, _, by rw [h9.1, h9.2.1, h9.2.2]; rfl, by rw [h9.2.1]; exact own7, by rw [h9.2.1]⟩)) (pqZ)
            · refine WC_none 56 ?_
              refine WC_skip ?_
              refine WQ_code ?_
              refine WC_seq ?_
              refine WC_region ?_
              refine WL_val rfl rfl rfl (R_assign rfl rfl) ?_
              refine WL_nil ?_
              refine WQ_code ?_
              refine WC_seq ?_
              refine WC_block ?_
              refine WC_loopF (G := Nat) [9, 39, 40, 41, 42, 43, 44, 45, 46, 47, 48, 49, 50, 51, 52, 53, 54] (fun y => y ≤ W.length ∧ ∀ (j : Nat) (z : Bd), j < y → W[j]? = some z → adLt z.1 (s, ((49152 + frN W s : Nat) : Int))) (fun y => [(9, .int .i64 (y : Int))]) (fun y => []) (fun y => W.length - y) (0) (⟨Nat.zero_le _, fun j z hj => absurd hj (Nat.not_lt_zero j)⟩) leZ (pqZ) ?_
              rintro y ⟨hy, hjs⟩
              refine WC_seq ?_
              refine WC_seq ?_
              refine WC_draw _ [(0, true), (1, true), (2, true), (3, true), (4, true), (5, true), (6, true), (7, true), (8, true), (9, true), (10, true), (11, false), (12, true), (13, true)] followsMixed rfl rfl (by kernel_rfl) .all ?_
              refine WM_val rfl rfl rfl rfl (R_move rfl rfl) ?_
              refine WM_val rfl rfl rfl rfl (R_move rfl rfl) ?_
              refine WM_val rfl rfl rfl rfl (R_len rfl Try.underlying27 rfl) ?_
              refine WM_val rfl rfl rfl rfl (R_lss rfl rfl rfl) ?_
              refine WM_val rfl rfl rfl rfl (R_move rfl rfl) ?_
              refine WM_splitD (s := 43) rfl (fun c6 => ?_) (fun c6 => ?_)
              · obtain ⟨x9, hx9⟩ := getE (T := W) (i := y) (by omega)
                obtain ⟨w9, ho9⟩ := own.some_of (by omega)
                refine WM_val rfl rfl rfl rfl (R_move rfl rfl) ?_
                refine WM_val rfl rfl rfl rfl (R_move rfl rfl) ?_
                refine WM_val rfl rfl rfl rfl (R_idxO ho9 rfl Try.underlying27 Try.sizeOf56 rfl rfl (by omega)) ?_
                refine WM_val rfl rfl rfl rfl (R_fieldAddr rfl fa56_0 rfl) ?_
                refine WM_val rfl rfl rfl rfl (R_loadAO (vs := [.string x9.1.1, .int .i64 x9.1.2]) ho9 rfl ag23 rfl (mmZ) rfl (fm_at0 encBd3 hx9 (j := 0) (vs := [.string x9.1.1, .int .i64 x9.1.2]) (fun j v h => by rcases j with _ | _ | j; exact h; exact h; simp at h) (Nat.le_of_ble_eq_true rfl))) ?_
                refine WM_val rfl rfl rfl rfl (R_loadA (vs := [_, _]) rfl ag23 rfl (mmZ) rfl (atZ)) ?_
                refine WM_do rfl rfl rfl rfl (D_call (rcmp_ok x9.1.1 x9.1.2 s ((49152 + frN W s : Nat) : Int)) rfl rfl rfl rfl (pqZ)) ?_
                rintro _ _ ⟨_, ⟨vc, rfl, hlt9, rfl⟩, rfl⟩
                refine ⟨⟨_, pqZ⟩, ?_⟩
                refine WM_val rfl rfl rfl rfl (R_lss rfl rfl rfl) ?_
                refine WM_val rfl rfl rfl rfl (R_pickT rfl rfl rfl) ?_
                refine WM_nil ?_
                refine WQ_code ?_
                refine WC_dec rfl (fun c7 => ?_) (fun c7 => ?_)
                · have hlt8 := hlt9.1 c7
                  refine WC_skip ?_
                  refine WQ_code ?_
                  refine WC_block ?_
                  refine WC_region ?_
                  refine WL_val rfl rfl rfl (R_move rfl rfl) ?_
                  refine WL_val rfl rfl rfl (R_add rfl rfl rfl (by omega)) ?_
                  refine WL_val rfl rfl rfl (R_assign rfl rfl) ?_
                  refine WL_nil ?_
                  refine WQ_nextF (gg := y) (y + 1) (⟨by omega, fun j z hj hz => by rcases Nat.lt_or_ge j y with h9 | h9; exact hjs j z h9 hz; (obtain rfl : j = y := by omega); rw [hx9] at hz; obtain rfl := Option.some.inj hz; exact hlt8⟩) (by omega) leZ (psZ) rfl (pqZ)
                · have hpos : insP W (s, ((49152 + frN W s : Nat) : Int)) = y := insP_eq hjs (.inr ⟨x9, hx9, fun h => c7 (hlt9.2 h)⟩)
                  refine WC_exit ?_
                  refine WQ_code ?_
                  refine WC_seq ?_
                  refine WC_draw _ [(0, true), (1, true), (2, true), (4, true), (5, true), (6, true), (3, false), (7, false), (8, true)] followsMixed rfl rfl (by kernel_rfl) .all ?_
                  refine WM_val rfl rfl rfl rfl (R_loadA (vs := [_, _]) rfl ag23 rfl (mmZ) rfl (atZ)) ?_
                  refine WM_val rfl rfl rfl rfl (R_move rfl rfl) ?_
                  refine WM_val rfl rfl rfl rfl (R_build rfl zv56 pl56 rfl rfl) ?_
                  refine WM_val rfl rfl rfl rfl (R_move rfl rfl) ?_
                  refine WM_val rfl rfl rfl rfl (R_move rfl rfl) ?_
                  refine WM_val rfl rfl rfl rfl (R_sliceFromK (m := y) rfl Try.underlying27 Try.sizeOf56 rfl rfl (by omega)) ?_
                  refine WM_do rfl rfl rfl rfl (D_buildSlice rfl si27 rfl rfl rfl) ?_
                  rintro _ _ ⟨b3, rfl, rfl⟩
                  refine ⟨⟨_, pqZ⟩, ?_⟩
                  refine WM_do rfl rfl rfl rfl (D_append rfl si27 rfl (own_lit3 _ ((s, ((49152 + frN W s : Nat) : Int)), v)) plZ rfl mmZ (at_drop W y c hy own.le tl) (by rw [fm_length encBd3, List.length_drop]) (encBd_one _) (by omega) (by omega)) ?_
                  rintro _ _ ⟨o5, c5, tl5, rfl, own5, rfl⟩
                  refine ⟨⟨_, pqZ⟩, ?_⟩
                  refine WM_val rfl rfl rfl rfl (R_assign rfl rfl) ?_
                  refine WM_nil ?_
                  refine WQ_code ?_
                  refine WC_seq ?_
                  refine WC_drawR [⟨none, _⟩, ⟨some b2, _⟩] [(0, true), (1, true), (2, true), (4, true), (6, true), (3, false), (5, false), (7, true), (8, false), (9, true)] followsMixed rfl rfl (by kernel_rfl) (pqZ) ?_
                  refine WM_val rfl rfl rfl rfl (R_move rfl rfl) ?_
                  refine WM_val rfl rfl rfl rfl (R_move rfl rfl) ?_
                  refine WM_val rfl rfl rfl rfl (R_sliceTo (m := y) rfl Try.underlying27 Try.sizeOf56 rfl rfl (by have := own.le; omega)) ?_
                  refine WM_val rfl rfl rfl rfl (R_move rfl rfl) ?_
                  refine WM_val rfl rfl rfl rfl (R_loadA (vs := [_, _]) rfl ag23 rfl (mmZ) rfl (atZ)) ?_
                  refine WM_do rfl rfl rfl rfl (D_append rfl si27 rfl (Own.empty 3) plZ rfl mmZ (at_take W y tl) (by rw [fm_length encBd3, List.length_take, Nat.min_eq_left hy]) (encBd_one _) (by omega) (by omega)) ?_
                  rintro _ _ ⟨o6, c6, tl6, rfl, own6, rfl⟩
                  refine ⟨⟨_, pqZ⟩, ?_⟩
                  refine WM_do rfl rfl rfl rfl (D_appendO rfl si27 rfl own6 plZ rfl own5 mmZ (encBd_one (((s, ((49152 + frN W s : Nat) : Int)), v) :: W.drop y)) (by omega) (by omega)) ?_
                  rintro _ _ ⟨o7, c7, tl7, rfl, own7, rfl⟩
                  refine ⟨⟨_, pqZ⟩, ?_⟩
                  have hins := insB_at ((s, ((49152 + frN W s : Nat) : Int)), v) W
                  rw [hpos] at hins
                  have hfl : [] ++ (W.take y).flatMap encBd ++ (encBd ((s, ((49152 + frN W s : Nat) : Int)), v) ++ (W.drop y).flatMap encBd) = (insB W ((s, ((49152 + frN W s : Nat) : Int)), v)).flatMap encBd := by rw [hins, List.flatMap_append, List.flatMap_cons, List.nil_append]
                  have hln : 0 + y + (1 + (W.length - y)) = (insB W ((s, ((49152 + frN W s : Nat) : Int)), v)).length := by rw [insB_len]; omega
                  rw [hfl, hln] at own7
                  rw [hfl, hln]
                  refine WM_val rfl rfl rfl rfl (R_assign rfl rfl) ?_
                  refine WM_do0 rfl rfl rfl (D_store (vs := [_, _]) rfl Try.sizeOf23 rfl rfl rfl rfl rfl (plZ) (by exact Nat.le_of_ble_eq_true rfl)) ?_
                  rintro _ _ rfl
                  refine ⟨⟨_, pqZ⟩, ?_⟩
                  refine WM_val rfl rfl rfl rfl (R_assign rfl rfl) ?_
                  refine WM_nil ?_
                  refine WQ_code ?_
                  refine WC_ret ?_
                  refine WQ_ret rfl rfl (.cons (.tmp rfl) (.cons (.cell (vs := [_, _]) rfl ag23 (mmZ) rfl (atZ)) (.cons (.tmp rfl) .nil))) rfl (by
                      first | (have h9 := bnd_busy (W := W) (a := (s, p)) (v := v) (by simp_all) (by omega) (by rw [hk9]; rcases hv9 with ⟨e, _⟩ | ⟨i, u, _, hi⟩; omega; exact in_kys (List.mem_of_getElem? hi)); exact ⟨_, _, _, by rw [h9.1, h9.2.1, h9.2.2]; rfl, by rw [h9.2.1]; exact own, by rw [h9.2.1]⟩) | (have h9 := bnd_full (W := W) (a := (s, p)) (v := v) (by simp_all) (by omega) (by rw [hk9]; exact hno9) (by omega); exact ⟨_, _, _, by rw [h9.1, h9.2.1, h9.2.2]; rfl, by rw [h9.2.1]; exact own, by rw [h9.2.1]⟩) | (have h9 := bnd_ok (W := W) (a := (s, p)) (v := v) (by simp_all) (by omega) (by rw [hk9]; exact hno9) (by omega); rw [hk9] at h9; exact ⟨_, _, _, by rw [h9.1, h9.2.1, h9.2.2]; rfl, by rw [h9.2.1]; exact own7, by rw [h9.2.1]⟩)) (pqZ)
              · refine WM_skip rfl rfl rfl rfl ?_
                refine WM_skip rfl rfl rfl rfl ?_
                refine WM_skip rfl rfl rfl rfl ?_
                refine WM_skip rfl rfl rfl rfl ?_
                refine WM_skip rfl rfl rfl rfl ?_
                refine WM_skip rfl rfl rfl rfl ?_
                refine WM_skipF rfl rfl rfl rfl (pqZ) ?_
                refine WM_skip rfl rfl rfl rfl ?_
                refine WM_val rfl rfl rfl rfl (R_pickF rfl rfl rfl) ?_
                refine WM_nil ?_
                refine WQ_code ?_
                refine WC_F rfl ?_
                refine WC_exit ?_
                refine WQ_code ?_
                refine WC_seq ?_
                refine WC_draw _ [(0, true), (1, true), (2, true), (4, true), (5, true), (6, true), (3, false), (7, false), (8, true)] followsMixed rfl rfl (by kernel_rfl) .all ?_
                have hpos : insP W (s, ((49152 + frN W s : Nat) : Int)) = y := insP_eq hjs (.inl (by omega))
                refine WM_val rfl rfl rfl rfl (R_loadA (vs := [_, _]) rfl ag23 rfl (mmZ) rfl (atZ)) ?_
                refine WM_val rfl rfl rfl rfl (R_move rfl rfl) ?_
                refine WM_val rfl rfl rfl rfl (R_build rfl zv56 pl56 rfl rfl) ?_
                refine WM_val rfl rfl rfl rfl (R_move rfl rfl) ?_
                refine WM_val rfl rfl rfl rfl (R_move rfl rfl) ?_
                refine WM_val rfl rfl rfl rfl (R_sliceFromK (m := y) rfl Try.underlying27 Try.sizeOf56 rfl rfl (by omega)) ?_
                refine WM_do rfl rfl rfl rfl (D_buildSlice rfl si27 rfl rfl rfl) ?_
                rintro _ _ ⟨b4, rfl, rfl⟩
                refine ⟨⟨_, pqZ⟩, ?_⟩
                refine WM_do rfl rfl rfl rfl (D_append rfl si27 rfl (own_lit3 _ ((s, ((49152 + frN W s : Nat) : Int)), v)) plZ rfl mmZ (at_drop W y c hy own.le tl) (by rw [fm_length encBd3, List.length_drop]) (encBd_one _) (by omega) (by omega)) ?_
                rintro _ _ ⟨o5, c5, tl5, rfl, own5, rfl⟩
                refine ⟨⟨_, pqZ⟩, ?_⟩
                refine WM_val rfl rfl rfl rfl (R_assign rfl rfl) ?_
                refine WM_nil ?_
                refine WQ_code ?_
                refine WC_seq ?_
                refine WC_drawR [⟨none, _⟩, ⟨some b2, _⟩] [(0, true), (1, true), (2, true), (4, true), (6, true), (3, false), (5, false), (7, true), (8, false), (9, true)] followsMixed rfl rfl (by kernel_rfl) (pqZ) ?_
                refine WM_val rfl rfl rfl rfl (R_move rfl rfl) ?_
                refine WM_val rfl rfl rfl rfl (R_move rfl rfl) ?_
                refine WM_val rfl rfl rfl rfl (R_sliceTo (m := y) rfl Try.underlying27 Try.sizeOf56 rfl rfl (by have := own.le; omega)) ?_
                refine WM_val rfl rfl rfl rfl (R_move rfl rfl) ?_
                refine WM_val rfl rfl rfl rfl (R_loadA (vs := [_, _]) rfl ag23 rfl (mmZ) rfl (atZ)) ?_
                refine WM_do rfl rfl rfl rfl (D_append rfl si27 rfl (Own.empty 3) plZ rfl mmZ (at_take W y tl) (by rw [fm_length encBd3, List.length_take, Nat.min_eq_left hy]) (encBd_one _) (by omega) (by omega)) ?_
                rintro _ _ ⟨o6, c6, tl6, rfl, own6, rfl⟩
                refine ⟨⟨_, pqZ⟩, ?_⟩
                refine WM_do rfl rfl rfl rfl (D_appendO rfl si27 rfl own6 plZ rfl own5 mmZ (encBd_one (((s, ((49152 + frN W s : Nat) : Int)), v) :: W.drop y)) (by omega) (by omega)) ?_
                rintro _ _ ⟨o7, c7, tl7, rfl, own7, rfl⟩
                refine ⟨⟨_, pqZ⟩, ?_⟩
                have hins := insB_at ((s, ((49152 + frN W s : Nat) : Int)), v) W
                rw [hpos] at hins
                have hfl : [] ++ (W.take y).flatMap encBd ++ (encBd ((s, ((49152 + frN W s : Nat) : Int)), v) ++ (W.drop y).flatMap encBd) = (insB W ((s, ((49152 + frN W s : Nat) : Int)), v)).flatMap encBd := by rw [hins, List.flatMap_append, List.flatMap_cons, List.nil_append]
                have hln : 0 + y + (1 + (W.length - y)) = (insB W ((s, ((49152 + frN W s : Nat) : Int)), v)).length := by rw [insB_len]; omega
                rw [hfl, hln] at own7
                rw [hfl, hln]
                refine WM_val rfl rfl rfl rfl (R_assign rfl rfl) ?_
                refine WM_do0 rfl rfl rfl (D_store (vs := [_, _]) rfl Try.sizeOf23 rfl rfl rfl rfl rfl (plZ) (by exact Nat.le_of_ble_eq_true rfl)) ?_
                rintro _ _ rfl
                refine ⟨⟨_, pqZ⟩, ?_⟩
                refine WM_val rfl rfl rfl rfl (R_assign rfl rfl) ?_
                refine WM_nil ?_
                refine WQ_code ?_
                refine WC_ret ?_
                refine WQ_ret rfl rfl (.cons (.tmp rfl) (.cons (.cell (vs := [_, _]) rfl ag23 (mmZ) rfl (atZ)) (.cons (.tmp rfl) .nil))) rfl (by
                    first | (have h9 := bnd_busy (W := W) (a := (s, p)) (v := v) (by simp_all) (by omega) (by rw [hk9]; rcases hv9 with ⟨e, _⟩ | ⟨i, u, _, hi⟩; omega; exact in_kys (List.mem_of_getElem? hi)); exact ⟨_, _, _, by rw [h9.1, h9.2.1, h9.2.2]; rfl, by rw [h9.2.1]; exact own, by rw [h9.2.1]⟩) | (have h9 := bnd_full (W := W) (a := (s, p)) (v := v) (by simp_all) (by omega) (by rw [hk9]; exact hno9) (by omega); exact ⟨_, _, _, by rw [h9.1, h9.2.1, h9.2.2]; rfl, by rw [h9.2.1]; exact own, by rw [h9.2.1]⟩) | (have h9 := bnd_ok (W := W) (a := (s, p)) (v := v) (by simp_all) (by omega) (by rw [hk9]; exact hno9) (by omega); rw [hk9] at h9; exact ⟨_, _, _, by rw [h9.1, h9.2.1, h9.2.2]; rfl, by rw [h9.2.1]; exact own7, by rw [h9.2.1]⟩)) (pqZ)
      · have hk9 : bndA W (s, p) = (s, p) := bndA_p (by assumption)
        · refine WC_skip ?_
          refine WQ_code ?_
          refine WC_seq ?_
          refine WC_seq ?_
          refine WC_region ?_
          refine WL_val rfl rfl rfl (R_move rfl rfl) ?_
          refine WL_val rfl rfl rfl (R_loadA (vs := [_, _]) rfl ag23 rfl (mmZ) rfl (atZ)) ?_
          refine WL_do rfl rfl rfl (D_call (qfind_ok own (by omega) s p) rfl rfl rfl rfl (pqZ)) ?_
          rintro _ _ ⟨_, ⟨v9, rfl, hv9, rfl⟩, rfl⟩
          refine WL_val rfl rfl rfl (R_geq rfl rfl rfl) ?_
          refine WL_nil ?_
          refine WQ_code ?_
          refine WC_dec rfl (fun c8 => ?_) (fun c8 => ?_)
          · refine WC_seq ?_
            refine WC_region ?_
            refine WL_val rfl rfl rfl (R_move rfl rfl) ?_
            refine WL_val rfl rfl rfl (R_build rfl zv23 pl23 rfl rfl) ?_
            refine WL_val rfl rfl rfl (R_assign rfl rfl) ?_
            refine WL_do0 rfl rfl (D_store (vs := [_, _]) rfl Try.sizeOf23 rfl rfl rfl rfl rfl (plZ) (by exact Nat.le_of_ble_eq_true rfl)) ?_
            rintro _ _ rfl
            refine WL_val rfl rfl rfl (R_assign rfl rfl) ?_
            refine WL_nil ?_
            refine WQ_code ?_
            refine WC_ret ?_
            refine WQ_ret rfl rfl (.cons (.tmp rfl) (.cons (.cell (vs := [_, _]) rfl ag23 (mmZ) rfl (atZ)) (.cons (.tmp rfl) .nil))) rfl (by
                first | (have h9 := bnd_busy (W := W) (a := (s, p)) (v := v) (by simp_all) (by omega) (by rw [hk9]; rcases hv9 with ⟨e, _⟩ | ⟨i, u, _, hi⟩; omega; exact in_kys (List.mem_of_getElem? hi)); exact ⟨_, _, _, by rw [h9.1, h9.2.1, h9.2.2]; rfl, by rw [h9.2.1]; exact own, by rw [h9.2.1]⟩) | (have h9 := bnd_full (W := W) (a := (s, p)) (v := v) (by simp_all) (by omega) (by rw [hk9]; exact hno9) (by omega); exact ⟨_, _, _, by rw [h9.1, h9.2.1, h9.2.2]; rfl, by rw [h9.2.1]; exact own, by rw [h9.2.1]⟩) | (have h9 := bnd_ok (W := W) (a := (s, p)) (v := v) (by simp_all) (by omega) (by rw [hk9]; exact hno9) (by omega); rw [hk9] at h9; exact ⟨_, _, _, by rw [h9.1, h9.2.1, h9.2.2]; rfl, by rw [h9.2.1]; exact own7, by rw [h9.2.1]⟩)) (pqZ)
          · have hno9 : ((s, p) : Ad) ∉ kys W := by rcases hv9 with ⟨_, e⟩ | ⟨i, u, e, hi⟩; exact e; omega
            refine WC_skip ?_
            refine WQ_code ?_
            refine WC_seq ?_
            refine WC_seq ?_
            refine WC_region ?_
            refine WL_val rfl rfl rfl (R_move rfl rfl) ?_
            refine WL_val rfl rfl rfl (R_len rfl Try.underlying27 rfl) ?_
            refine WL_val rfl rfl rfl (R_geq rfl rfl rfl) ?_
            refine WL_nil ?_
            refine WQ_code ?_
            refine WC_dec rfl (fun c9 => ?_) (fun c9 => ?_)
            · refine WC_seq ?_
              refine WC_region ?_
              refine WL_val rfl rfl rfl (R_move rfl rfl) ?_
              refine WL_val rfl rfl rfl (R_build rfl zv23 pl23 rfl rfl) ?_
              refine WL_val rfl rfl rfl (R_assign rfl rfl) ?_
              refine WL_do0 rfl rfl (D_store (vs := [_, _]) rfl Try.sizeOf23 rfl rfl rfl rfl rfl (plZ) (by exact Nat.le_of_ble_eq_true rfl)) ?_
              rintro _ _ rfl
              refine WL_val rfl rfl rfl (R_assign rfl rfl) ?_
              refine WL_nil ?_
              refine WQ_code ?_
              refine WC_ret ?_
              refine WQ_ret rfl rfl (.cons (.tmp rfl) (.cons (.cell (vs := [_, _]) rfl ag23 (mmZ) rfl (atZ)) (.cons (.tmp rfl) .nil))) rfl (by
                  first | (have h9 := bnd_busy (W := W) (a := (s, p)) (v := v) (by simp_all) (by omega) (by rw [hk9]; rcases hv9 with ⟨e, _⟩ | ⟨i, u, _, hi⟩; omega; exact in_kys (List.mem_of_getElem? hi)); exact ⟨_, _, _, by rw [h9.1, h9.2.1, h9.2.2]; rfl, by rw [h9.2.1]; exact own, by rw [h9.2.1]⟩) | (have h9 := bnd_full (W := W) (a := (s, p)) (v := v) (by simp_all) (by omega) (by rw [hk9]; exact hno9) (by omega); exact ⟨_, _, _, by rw [h9.1, h9.2.1, h9.2.2]; rfl, by rw [h9.2.1]; exact own, by rw [h9.2.1]⟩) | (have h9 := bnd_ok (W := W) (a := (s, p)) (v := v) (by simp_all) (by omega) (by rw [hk9]; exact hno9) (by omega); rw [hk9] at h9; exact ⟨_, _, _, by rw [h9.1, h9.2.1, h9.2.2]; rfl, by rw [h9.2.1]; exact own7, by rw [h9.2.1]⟩)) (pqZ)
            · refine WC_none 56 ?_
              refine WC_skip ?_
              refine WQ_code ?_
              refine WC_seq ?_
              refine WC_region ?_
              refine WL_val rfl rfl rfl (R_assign rfl rfl) ?_
              refine WL_nil ?_
              refine WQ_code ?_
              refine WC_seq ?_
              refine WC_block ?_
              refine WC_loopF (G := Nat) [9, 39, 40, 41, 42, 43, 44, 45, 46, 47, 48, 49, 50, 51, 52, 53, 54] (fun y => y ≤ W.length ∧ ∀ (j : Nat) (z : Bd), j < y → W[j]? = some z → adLt z.1 (s, p)) (fun y => [(9, .int .i64 (y : Int))]) (fun y => []) (fun y => W.length - y) (0) (⟨Nat.zero_le _, fun j z hj => absurd hj (Nat.not_lt_zero j)⟩) leZ (pqZ) ?_
              rintro y ⟨hy, hjs⟩
              refine WC_seq ?_
              refine WC_seq ?_
              refine WC_draw _ [(0, true), (1, true), (2, true), (3, true), (4, true), (5, true), (6, true), (7, true), (8, true), (9, true), (10, true), (11, false), (12, true), (13, true)] followsMixed rfl rfl (by kernel_rfl) .all ?_
              refine WM_val rfl rfl rfl rfl (R_move rfl rfl) ?_
              refine WM_val rfl rfl rfl rfl (R_move rfl rfl) ?_
              refine WM_val rfl rfl rfl rfl (R_len rfl Try.underlying27 rfl) ?_
              refine WM_val rfl rfl rfl rfl (R_lss rfl rfl rfl) ?_
              refine WM_val rfl rfl rfl rfl (R_move rfl rfl) ?_
              refine WM_splitD (s := 43) rfl (fun c10 => ?_) (fun c10 => ?_)
              · obtain ⟨x9, hx9⟩ := getE (T := W) (i := y) (by omega)
                obtain ⟨w9, ho9⟩ := own.some_of (by omega)
                refine WM_val rfl rfl rfl rfl (R_move rfl rfl) ?_
                refine WM_val rfl rfl rfl rfl (R_move rfl rfl) ?_
                refine WM_val rfl rfl rfl rfl (R_idxO ho9 rfl Try.underlying27 Try.sizeOf56 rfl rfl (by omega)) ?_
                refine WM_val rfl rfl rfl rfl (R_fieldAddr rfl fa56_0 rfl) ?_
                refine WM_val rfl rfl rfl rfl (R_loadAO (vs := [.string x9.1.1, .int .i64 x9.1.2]) ho9 rfl ag23 rfl (mmZ) rfl (fm_at0 encBd3 hx9 (j := 0) (vs := [.string x9.1.1, .int .i64 x9.1.2]) (fun j v h => by rcases j with _ | _ | j; exact h; exact h; simp at h) (Nat.le_of_ble_eq_true rfl))) ?_
                refine WM_val rfl rfl rfl rfl (R_loadA (vs := [_, _]) rfl ag23 rfl (mmZ) rfl (atZ)) ?_
                refine WM_do rfl rfl rfl rfl (D_call (rcmp_ok x9.1.1 x9.1.2 s p) rfl rfl rfl rfl (pqZ)) ?_
                rintro _ _ ⟨_, ⟨vc, rfl, hlt9, rfl⟩, rfl⟩
                refine ⟨⟨_, pqZ⟩, ?_⟩
                refine WM_val rfl rfl rfl rfl (R_lss rfl rfl rfl) ?_
                refine WM_val rfl rfl rfl rfl (R_pickT rfl rfl rfl) ?_
                refine WM_nil ?_
                refine WQ_code ?_
                refine WC_dec rfl (fun c11 => ?_) (fun c11 => ?_)
                · have hlt8 := hlt9.1 c11
                  refine WC_skip ?_
                  refine WQ_code ?_
                  refine WC_block ?_
                  refine WC_region ?_
                  refine WL_val rfl rfl rfl (R_move rfl rfl) ?_
                  refine WL_val rfl rfl rfl (R_add rfl rfl rfl (by omega)) ?_
                  refine WL_val rfl rfl rfl (R_assign rfl rfl) ?_
                  refine WL_nil ?_
                  refine WQ_nextF (gg := y) (y + 1) (⟨by omega, fun j z hj hz => by rcases Nat.lt_or_ge j y with h9 | h9; exact hjs j z h9 hz; (obtain rfl : j = y := by omega); rw [hx9] at hz; obtain rfl := Option.some.inj hz; exact hlt8⟩) (by omega) leZ (psZ) rfl (pqZ)
                · have hpos : insP W (s, p) = y := insP_eq hjs (.inr ⟨x9, hx9, fun h => c11 (hlt9.2 h)⟩)
                  refine WC_exit ?_
                  refine WQ_code ?_
                  refine WC_seq ?_
                  refine WC_draw _ [(0, true), (1, true), (2, true), (4, true), (5, true), (6, true), (3, false), (7, false), (8, true)] followsMixed rfl rfl (by kernel_rfl) .all ?_
                  refine WM_val rfl rfl rfl rfl (R_loadA (vs := [_, _]) rfl ag23 rfl (mmZ) rfl (atZ)) ?_
                  refine WM_val rfl rfl rfl rfl (R_move rfl rfl) ?_
                  refine WM_val rfl rfl rfl rfl (R_build rfl zv56 pl56 rfl rfl) ?_
                  refine WM_val rfl rfl rfl rfl (R_move rfl rfl) ?_
                  refine WM_val rfl rfl rfl rfl (R_move rfl rfl) ?_
                  refine WM_val rfl rfl rfl rfl (R_sliceFromK (m := y) rfl Try.underlying27 Try.sizeOf56 rfl rfl (by omega)) ?_
                  refine WM_do rfl rfl rfl rfl (D_buildSlice rfl si27 rfl rfl rfl) ?_
                  rintro _ _ ⟨b5, rfl, rfl⟩
                  refine ⟨⟨_, pqZ⟩, ?_⟩
                  refine WM_do rfl rfl rfl rfl (D_append rfl si27 rfl (own_lit3 _ ((s, p), v)) plZ rfl mmZ (at_drop W y c hy own.le tl) (by rw [fm_length encBd3, List.length_drop]) (encBd_one _) (by omega) (by omega)) ?_
                  rintro _ _ ⟨o5, c5, tl5, rfl, own5, rfl⟩
                  refine ⟨⟨_, pqZ⟩, ?_⟩
                  refine WM_val rfl rfl rfl rfl (R_assign rfl rfl) ?_
                  refine WM_nil ?_
                  refine WQ_code ?_
                  refine WC_seq ?_
                  refine WC_drawR [⟨none, _⟩, ⟨some b2, _⟩] [(0, true), (1, true), (2, true), (4, true), (6, true), (3, false), (5, false), (7, true), (8, false), (9, true)] followsMixed rfl rfl (by kernel_rfl) (pqZ) ?_
                  refine WM_val rfl rfl rfl rfl (R_move rfl rfl) ?_
                  refine WM_val rfl rfl rfl rfl (R_move rfl rfl) ?_
                  refine WM_val rfl rfl rfl rfl (R_sliceTo (m := y) rfl Try.underlying27 Try.sizeOf56 rfl rfl (by have := own.le; omega)) ?_
                  refine WM_val rfl rfl rfl rfl (R_move rfl rfl) ?_
                  refine WM_val rfl rfl rfl rfl (R_loadA (vs := [_, _]) rfl ag23 rfl (mmZ) rfl (atZ)) ?_
                  refine WM_do rfl rfl rfl rfl (D_append rfl si27 rfl (Own.empty 3) plZ rfl mmZ (at_take W y tl) (by rw [fm_length encBd3, List.length_take, Nat.min_eq_left hy]) (encBd_one _) (by omega) (by omega)) ?_
                  rintro _ _ ⟨o6, c6, tl6, rfl, own6, rfl⟩
                  refine ⟨⟨_, pqZ⟩, ?_⟩
                  refine WM_do rfl rfl rfl rfl (D_appendO rfl si27 rfl own6 plZ rfl own5 mmZ (encBd_one (((s, p), v) :: W.drop y)) (by omega) (by omega)) ?_
                  rintro _ _ ⟨o7, c7, tl7, rfl, own7, rfl⟩
                  refine ⟨⟨_, pqZ⟩, ?_⟩
                  have hins := insB_at ((s, p), v) W
                  rw [hpos] at hins
                  have hfl : [] ++ (W.take y).flatMap encBd ++ (encBd ((s, p), v) ++ (W.drop y).flatMap encBd) = (insB W ((s, p), v)).flatMap encBd := by rw [hins, List.flatMap_append, List.flatMap_cons, List.nil_append]
                  have hln : 0 + y + (1 + (W.length - y)) = (insB W ((s, p), v)).length := by rw [insB_len]; omega
                  rw [hfl, hln] at own7
                  rw [hfl, hln]
                  refine WM_val rfl rfl rfl rfl (R_assign rfl rfl) ?_
                  refine WM_do0 rfl rfl rfl (D_store (vs := [_, _]) rfl Try.sizeOf23 rfl rfl rfl rfl rfl (plZ) (by exact Nat.le_of_ble_eq_true rfl)) ?_
                  rintro _ _ rfl
                  refine ⟨⟨_, pqZ⟩, ?_⟩
                  refine WM_val rfl rfl rfl rfl (R_assign rfl rfl) ?_
                  refine WM_nil ?_
                  refine WQ_code ?_
                  refine WC_ret ?_
                  refine WQ_ret rfl rfl (.cons (.tmp rfl) (.cons (.cell (vs := [_, _]) rfl ag23 (mmZ) rfl (atZ)) (.cons (.tmp rfl) .nil))) rfl (by
                      first | (have h9 := bnd_busy (W := W) (a := (s, p)) (v := v) (by simp_all) (by omega) (by rw [hk9]; rcases hv9 with ⟨e, _⟩ | ⟨i, u, _, hi⟩; omega; exact in_kys (List.mem_of_getElem? hi)); exact ⟨_, _, _, by rw [h9.1, h9.2.1, h9.2.2]; rfl, by rw [h9.2.1]; exact own, by rw [h9.2.1]⟩) | (have h9 := bnd_full (W := W) (a := (s, p)) (v := v) (by simp_all) (by omega) (by rw [hk9]; exact hno9) (by omega); exact ⟨_, _, _, by rw [h9.1, h9.2.1, h9.2.2]; rfl, by rw [h9.2.1]; exact own, by rw [h9.2.1]⟩) | (have h9 := bnd_ok (W := W) (a := (s, p)) (v := v) (by simp_all) (by omega) (by rw [hk9]; exact hno9) (by omega); rw [hk9] at h9; exact ⟨_, _, _, by rw [h9.1, h9.2.1, h9.2.2]; rfl, by rw [h9.2.1]; exact own7, by rw [h9.2.1]⟩)) (pqZ)
              · refine WM_skip rfl rfl rfl rfl ?_
                refine WM_skip rfl rfl rfl rfl ?_
                refine WM_skip rfl rfl rfl rfl ?_
                refine WM_skip rfl rfl rfl rfl ?_
                refine WM_skip rfl rfl rfl rfl ?_
                refine WM_skip rfl rfl rfl rfl ?_
                refine WM_skipF rfl rfl rfl rfl (pqZ) ?_
                refine WM_skip rfl rfl rfl rfl ?_
                refine WM_val rfl rfl rfl rfl (R_pickF rfl rfl rfl) ?_
                refine WM_nil ?_
                refine WQ_code ?_
                refine WC_F rfl ?_
                refine WC_exit ?_
                refine WQ_code ?_
                refine WC_seq ?_
                refine WC_draw _ [(0, true), (1, true), (2, true), (4, true), (5, true), (6, true), (3, false), (7, false), (8, true)] followsMixed rfl rfl (by kernel_rfl) .all ?_
                have hpos : insP W (s, p) = y := insP_eq hjs (.inl (by omega))
                refine WM_val rfl rfl rfl rfl (R_loadA (vs := [_, _]) rfl ag23 rfl (mmZ) rfl (atZ)) ?_
                refine WM_val rfl rfl rfl rfl (R_move rfl rfl) ?_
                refine WM_val rfl rfl rfl rfl (R_build rfl zv56 pl56 rfl rfl) ?_
                refine WM_val rfl rfl rfl rfl (R_move rfl rfl) ?_
                refine WM_val rfl rfl rfl rfl (R_move rfl rfl) ?_
                refine WM_val rfl rfl rfl rfl (R_sliceFromK (m := y) rfl Try.underlying27 Try.sizeOf56 rfl rfl (by omega)) ?_
                refine WM_do rfl rfl rfl rfl (D_buildSlice rfl si27 rfl rfl rfl) ?_
                rintro _ _ ⟨b6, rfl, rfl⟩
                refine ⟨⟨_, pqZ⟩, ?_⟩
                refine WM_do rfl rfl rfl rfl (D_append rfl si27 rfl (own_lit3 _ ((s, p), v)) plZ rfl mmZ (at_drop W y c hy own.le tl) (by rw [fm_length encBd3, List.length_drop]) (encBd_one _) (by omega) (by omega)) ?_
                rintro _ _ ⟨o5, c5, tl5, rfl, own5, rfl⟩
                refine ⟨⟨_, pqZ⟩, ?_⟩
                refine WM_val rfl rfl rfl rfl (R_assign rfl rfl) ?_
                refine WM_nil ?_
                refine WQ_code ?_
                refine WC_seq ?_
                refine WC_drawR [⟨none, _⟩, ⟨some b2, _⟩] [(0, true), (1, true), (2, true), (4, true), (6, true), (3, false), (5, false), (7, true), (8, false), (9, true)] followsMixed rfl rfl (by kernel_rfl) (pqZ) ?_
                refine WM_val rfl rfl rfl rfl (R_move rfl rfl) ?_
                refine WM_val rfl rfl rfl rfl (R_move rfl rfl) ?_
                refine WM_val rfl rfl rfl rfl (R_sliceTo (m := y) rfl Try.underlying27 Try.sizeOf56 rfl rfl (by have := own.le; omega)) ?_
                refine WM_val rfl rfl rfl rfl (R_move rfl rfl) ?_
                refine WM_val rfl rfl rfl rfl (R_loadA (vs := [_, _]) rfl ag23 rfl (mmZ) rfl (atZ)) ?_
                refine WM_do rfl rfl rfl rfl (D_append rfl si27 rfl (Own.empty 3) plZ rfl mmZ (at_take W y tl) (by rw [fm_length encBd3, List.length_take, Nat.min_eq_left hy]) (encBd_one _) (by omega) (by omega)) ?_
                rintro _ _ ⟨o6, c6, tl6, rfl, own6, rfl⟩
                refine ⟨⟨_, pqZ⟩, ?_⟩
                refine WM_do rfl rfl rfl rfl (D_appendO rfl si27 rfl own6 plZ rfl own5 mmZ (encBd_one (((s, p), v) :: W.drop y)) (by omega) (by omega)) ?_
                rintro _ _ ⟨o7, c7, tl7, rfl, own7, rfl⟩
                refine ⟨⟨_, pqZ⟩, ?_⟩
                have hins := insB_at ((s, p), v) W
                rw [hpos] at hins
                have hfl : [] ++ (W.take y).flatMap encBd ++ (encBd ((s, p), v) ++ (W.drop y).flatMap encBd) = (insB W ((s, p), v)).flatMap encBd := by rw [hins, List.flatMap_append, List.flatMap_cons, List.nil_append]
                have hln : 0 + y + (1 + (W.length - y)) = (insB W ((s, p), v)).length := by rw [insB_len]; omega
                rw [hfl, hln] at own7
                rw [hfl, hln]
                refine WM_val rfl rfl rfl rfl (R_assign rfl rfl) ?_
                refine WM_do0 rfl rfl rfl (D_store (vs := [_, _]) rfl Try.sizeOf23 rfl rfl rfl rfl rfl (plZ) (by exact Nat.le_of_ble_eq_true rfl)) ?_
                rintro _ _ rfl
                refine ⟨⟨_, pqZ⟩, ?_⟩
                refine WM_val rfl rfl rfl rfl (R_assign rfl rfl) ?_
                refine WM_nil ?_
                refine WQ_code ?_
                refine WC_ret ?_
                refine WQ_ret rfl rfl (.cons (.tmp rfl) (.cons (.cell (vs := [_, _]) rfl ag23 (mmZ) rfl (atZ)) (.cons (.tmp rfl) .nil))) rfl (by
                    first | (have h9 := bnd_busy (W := W) (a := (s, p)) (v := v) (by simp_all) (by omega) (by rw [hk9]; rcases hv9 with ⟨e, _⟩ | ⟨i, u, _, hi⟩; omega; exact in_kys (List.mem_of_getElem? hi)); exact ⟨_, _, _, by rw [h9.1, h9.2.1, h9.2.2]; rfl, by rw [h9.2.1]; exact own, by rw [h9.2.1]⟩) | (have h9 := bnd_full (W := W) (a := (s, p)) (v := v) (by simp_all) (by omega) (by rw [hk9]; exact hno9) (by omega); exact ⟨_, _, _, by rw [h9.1, h9.2.1, h9.2.2]; rfl, by rw [h9.2.1]; exact own, by rw [h9.2.1]⟩) | (have h9 := bnd_ok (W := W) (a := (s, p)) (v := v) (by simp_all) (by omega) (by rw [hk9]; exact hno9) (by omega); rw [hk9] at h9; exact ⟨_, _, _, by rw [h9.1, h9.2.1, h9.2.2]; rfl, by rw [h9.2.1]; exact own7, by rw [h9.2.1]⟩)) (pqZ)
theorem qbind_none (s : ByteArray) (p v : Int) : Spec Try.prog 10 [slV none 0 0, .agg #[.string s, .int .i64 p], .int .i64 v] [⟨none, cl [] 56⟩] (fun x H' => ∃ o2 c2 tl2, x = .tuple #[slV o2 (bndW ([] : List Bd) (s, p) v).length c2, adV (bndR ([] : List Bd) (s, p) v), .int .i64 (bndE ([] : List Bd) (s, p) v)] ∧ Own o2 (bndW ([] : List Bd) (s, p) v).length c2 3 ((bndW ([] : List Bd) (s, p) v).flatMap encBd) tl2 ∧ H' = [⟨o2, cl ((bndW ([] : List Bd) (s, p) v).flatMap encBd ++ tl2) 56⟩]) := by
  have hwl : ([] : List Bd).length = 0 := rfl
  have hl : ([] : List Bd).length ≤ 128 := by decide
  have own : Own none ([] : List Bd).length 0 3 (([] : List Bd).flatMap encBd) [] := Own.empty 3
  refine Spec.of (E := [(0, slV none 0 0), (1, .agg #[.string s, .int .i64 p]), (2, .int .i64 v)]) Try.func10 rfl (by kernel_rfl) Try.ntmps10 rfl rfl (fun w => ?_)
  refine WC_seq ?_
  refine WC_region ?_
  refine WL_do rfl rfl rfl (D_box (cs := [_, _]) rfl rfl rfl) ?_
  rintro _ _ ⟨b1, rfl, rfl⟩
  refine WL_val rfl rfl rfl (R_assign rfl rfl) ?_
  refine WL_do rfl rfl rfl (D_alloc rfl zv23) ?_
  rintro _ _ ⟨b2, rfl, rfl⟩
  refine WL_val rfl rfl rfl (R_assign rfl rfl) ?_
  refine WL_nil ?_
  refine WQ_code ?_
  refine WC_seq ?_
  refine WC_seq ?_
  refine WC_region ?_
  refine WL_val rfl rfl rfl (R_loadA (vs := [_, _]) rfl ag23 rfl (mmZ) rfl (atZ)) ?_
  refine WL_do rfl rfl rfl (D_call (rvalid_ok s p) rfl rfl rfl rfl (pqZ)) ?_
  rintro _ _ ⟨_, ⟨rfl, rfl⟩, rfl⟩
  refine WL_val rfl rfl rfl (R_not rfl rfl) ?_
  refine WL_val rfl rfl rfl (R_move rfl rfl) ?_
  refine WL_split (s := 14) rfl (fun c1 => ?_) (fun c1 => ?_)
  · refine WL_skip rfl rfl rfl ?_
    refine WL_skip rfl rfl rfl ?_
    refine WL_val rfl rfl rfl (R_pickT rfl rfl rfl) ?_
    refine WL_nil ?_
    refine WQ_code ?_
    refine WC_T rfl ?_
    refine WC_seq ?_
    refine WC_region ?_
    refine WL_val rfl rfl rfl (R_move rfl rfl) ?_
    refine WL_val rfl rfl rfl (R_build rfl zv23 pl23 rfl rfl) ?_
    refine WL_val rfl rfl rfl (R_assign rfl rfl) ?_
    refine WL_do0 rfl rfl (D_store (vs := [_, _]) rfl Try.sizeOf23 rfl rfl rfl rfl rfl (plZ) (by exact Nat.le_of_ble_eq_true rfl)) ?_
    rintro _ _ rfl
    refine WL_val rfl rfl rfl (R_assign rfl rfl) ?_
    refine WL_nil ?_
    refine WQ_code ?_
    refine WC_ret ?_
    refine WQ_ret rfl rfl (.cons (.tmp rfl) (.cons (.cell (vs := [_, _]) rfl ag23 (mmZ) rfl (atZ)) (.cons (.tmp rfl) .nil))) rfl (by
        exact ⟨_, _, _, by rw [(bnd_arg (by simp_all)).1, (bnd_arg (by simp_all)).2.1, (bnd_arg (by simp_all)).2.2]; rfl, by rw [(bnd_arg (by simp_all)).2.1]; exact own, by rw [(bnd_arg (by simp_all)).2.1]⟩) (pqZ)
  · refine WL_val rfl rfl rfl (R_move rfl rfl) ?_
    refine WL_val rfl rfl rfl (R_lss rfl rfl rfl) ?_
    refine WL_val rfl rfl rfl (R_pickF rfl rfl rfl) ?_
    refine WL_nil ?_
    refine WQ_code ?_
    refine WC_dec rfl (fun c2 => ?_) (fun c2 => ?_)
    · refine WC_seq ?_
      refine WC_region ?_
      refine WL_val rfl rfl rfl (R_move rfl rfl) ?_
      refine WL_val rfl rfl rfl (R_build rfl zv23 pl23 rfl rfl) ?_
      refine WL_val rfl rfl rfl (R_assign rfl rfl) ?_
      refine WL_do0 rfl rfl (D_store (vs := [_, _]) rfl Try.sizeOf23 rfl rfl rfl rfl rfl (plZ) (by exact Nat.le_of_ble_eq_true rfl)) ?_
      rintro _ _ rfl
      refine WL_val rfl rfl rfl (R_assign rfl rfl) ?_
      refine WL_nil ?_
      refine WQ_code ?_
      refine WC_ret ?_
      refine WQ_ret rfl rfl (.cons (.tmp rfl) (.cons (.cell (vs := [_, _]) rfl ag23 (mmZ) rfl (atZ)) (.cons (.tmp rfl) .nil))) rfl (by
          exact ⟨_, _, _, by rw [(bnd_arg (by simp_all)).1, (bnd_arg (by simp_all)).2.1, (bnd_arg (by simp_all)).2.2]; rfl, by rw [(bnd_arg (by simp_all)).2.1]; exact own, by rw [(bnd_arg (by simp_all)).2.1]⟩) (pqZ)
    · refine WC_skip ?_
      refine WQ_code ?_
      refine WC_seq ?_
      refine WC_seq ?_
      refine WC_region ?_
      refine WL_val rfl rfl rfl (R_fieldAddr rfl fa23_1 rfl) ?_
      refine WL_val rfl rfl rfl (R_load rfl sc3 rfl (mmZ) rfl) ?_
      refine WL_val rfl rfl rfl (R_eql rfl rfl rfl) ?_
      refine WL_nil ?_
      refine WQ_code ?_
      refine WC_dec rfl (fun c3 => ?_) (fun c3 => ?_)
      · have hk9 : bndA ([] : List Bd) (s, p) = (s, ((49152 + frN ([] : List Bd) s : Nat) : Int)) := bndA_0 (by assumption)
        · refine WC_region ?_
          refine WL_val rfl rfl rfl (R_move rfl rfl) ?_
          refine WL_val rfl rfl rfl (R_fieldAddr rfl fa23_0 rfl) ?_
          refine WL_val rfl rfl rfl (R_load rfl sc9 rfl (mmZ) rfl) ?_
          refine WL_do rfl rfl rfl (D_call (qfree_ok own hl s) rfl rfl rfl rfl (pqZ)) ?_
          rintro _ _ ⟨_, ⟨rfl, rfl⟩, rfl⟩
          refine WL_val rfl rfl rfl (R_fieldAddr rfl fa23_1 rfl) ?_
          refine WL_do0 rfl rfl (D_store (vs := [_]) rfl Try.sizeOf3 rfl rfl rfl rfl rfl (plZ) (by exact Nat.le_of_ble_eq_true rfl)) ?_
          rintro _ _ rfl
          refine WL_nil ?_
          refine WQ_code ?_
          refine WC_seq ?_
          refine WC_seq ?_
          refine WC_region ?_
          refine WL_val rfl rfl rfl (R_move rfl rfl) ?_
          refine WL_val rfl rfl rfl (R_loadA (vs := [_, _]) rfl ag23 rfl (mmZ) rfl (atZ)) ?_
          refine WL_do rfl rfl rfl (D_call (qfind_ok own (by omega) s ((49152 + frN ([] : List Bd) s : Nat) : Int)) rfl rfl rfl rfl (pqZ)) ?_
          rintro _ _ ⟨_, ⟨v9, rfl, hv9, rfl⟩, rfl⟩
          refine WL_val rfl rfl rfl (R_geq rfl rfl rfl) ?_
          refine WL_nil ?_
          refine WQ_code ?_
          refine WC_dec rfl (fun c4 => ?_) (fun c4 => ?_)
          · refine WC_seq ?_
            refine WC_region ?_
            refine WL_val rfl rfl rfl (R_move rfl rfl) ?_
            refine WL_val rfl rfl rfl (R_build rfl zv23 pl23 rfl rfl) ?_
            refine WL_val rfl rfl rfl (R_assign rfl rfl) ?_
            refine WL_do0 rfl rfl (D_store (vs := [_, _]) rfl Try.sizeOf23 rfl rfl rfl rfl rfl (plZ) (by exact Nat.le_of_ble_eq_true rfl)) ?_
            rintro _ _ rfl
            refine WL_val rfl rfl rfl (R_assign rfl rfl) ?_
            refine WL_nil ?_
            refine WQ_code ?_
            refine WC_ret ?_
            refine WQ_ret rfl rfl (.cons (.tmp rfl) (.cons (.cell (vs := [_, _]) rfl ag23 (mmZ) rfl (atZ)) (.cons (.tmp rfl) .nil))) rfl (by
                first | (have h9 := bnd_busy (W := ([] : List Bd)) (a := (s, p)) (v := v) (by simp_all) (by omega) (by rw [hk9]; rcases hv9 with ⟨e, _⟩ | ⟨i, u, _, hi⟩; omega; exact in_kys (List.mem_of_getElem? hi)); exact ⟨_, _, _, by rw [h9.1, h9.2.1, h9.2.2]; rfl, by rw [h9.2.1]; exact own, by rw [h9.2.1]⟩) | (have h9 := bnd_full (W := ([] : List Bd)) (a := (s, p)) (v := v) (by simp_all) (by omega) (by rw [hk9]; exact hno9) (by omega); exact ⟨_, _, _, by rw [h9.1, h9.2.1, h9.2.2]; rfl, by rw [h9.2.1]; exact own, by rw [h9.2.1]⟩) | (have h9 := bnd_ok (W := ([] : List Bd)) (a := (s, p)) (v := v) (by simp_all) (by omega) (by rw [hk9]; exact hno9) (by omega); rw [hk9] at h9; exact ⟨_, _, _, by rw [h9.1, h9.2.1, h9.2.2]; rfl, by rw [h9.2.1]; exact own7, by rw [h9.2.1]⟩)) (pqZ)
          · have hno9 : ((s, ((49152 + frN ([] : List Bd) s : Nat) : Int)) : Ad) ∉ kys ([] : List Bd) := by rcases hv9 with ⟨_, e⟩ | ⟨i, u, e, hi⟩; exact e; omega
            refine WC_skip ?_
            refine WQ_code ?_
            refine WC_seq ?_
            refine WC_seq ?_
            refine WC_region ?_
            refine WL_val rfl rfl rfl (R_move rfl rfl) ?_
            refine WL_val rfl rfl rfl (R_len rfl Try.underlying27 rfl) ?_
            refine WL_val rfl rfl rfl (R_geq rfl rfl rfl) ?_
            refine WL_nil ?_
            refine WQ_code ?_
            refine WC_dec rfl (fun c5 => ?_) (fun c5 => ?_)
            · refine WC_seq ?_
              refine WC_region ?_
              refine WL_val rfl rfl rfl (R_move rfl rfl) ?_
              refine WL_val rfl rfl rfl (R_build rfl zv23 pl23 rfl rfl) ?_
              refine WL_val rfl rfl rfl (R_assign rfl rfl) ?_
              refine WL_do0 rfl rfl (D_store (vs := [_, _]) rfl Try.sizeOf23 rfl rfl rfl rfl rfl (plZ) (by exact Nat.le_of_ble_eq_true rfl)) ?_
              rintro _ _ rfl
              refine WL_val rfl rfl rfl (R_assign rfl rfl) ?_
              refine WL_nil ?_
              refine WQ_code ?_
              refine WC_ret ?_
              refine WQ_ret rfl rfl (.cons (.tmp rfl) (.cons (.cell (vs := [_, _]) rfl ag23 (mmZ) rfl (atZ)) (.cons (.tmp rfl) .nil))) rfl (by
                  first | (have h9 := bnd_busy (W := ([] : List Bd)) (a := (s, p)) (v := v) (by simp_all) (by omega) (by rw [hk9]; rcases hv9 with ⟨e, _⟩ | ⟨i, u, _, hi⟩; omega; exact in_kys (List.mem_of_getElem? hi)); exact ⟨_, _, _, by rw [h9.1, h9.2.1, h9.2.2]; rfl, by rw [h9.2.1]; exact own, by rw [h9.2.1]⟩) | (have h9 := bnd_full (W := ([] : List Bd)) (a := (s, p)) (v := v) (by simp_all) (by omega) (by rw [hk9]; exact hno9) (by omega); exact ⟨_, _, _, by rw [h9.1, h9.2.1, h9.2.2]; rfl, by rw [h9.2.1]; exact own, by rw [h9.2.1]⟩) | (have h9 := bnd_ok (W := ([] : List Bd)) (a := (s, p)) (v := v) (by simp_all) (by omega) (by rw [hk9]; exact hno9) (by omega); rw [hk9] at h9; exact ⟨_, _, _, by rw [h9.1, h9.2.1, h9.2.2]; rfl, by rw [h9.2.1]; exact own7, by rw [h9.2.1]⟩)) (pqZ)
            · refine WC_none 56 ?_
              refine WC_skip ?_
              refine WQ_code ?_
              refine WC_seq ?_
              refine WC_region ?_
              refine WL_val rfl rfl rfl (R_assign rfl rfl) ?_
              refine WL_nil ?_
              refine WQ_code ?_
              refine WC_seq ?_
              refine WC_block ?_
              refine WC_loopF (G := Nat) [9, 39, 40, 41, 42, 43, 44, 45, 46, 47, 48, 49, 50, 51, 52, 53, 54] (fun y => y ≤ ([] : List Bd).length ∧ ∀ (j : Nat) (z : Bd), j < y → ([] : List Bd)[j]? = some z → adLt z.1 (s, ((49152 + frN ([] : List Bd) s : Nat) : Int))) (fun y => [(9, .int .i64 (y : Int))]) (fun y => []) (fun y => ([] : List Bd).length - y) (0) (⟨Nat.zero_le _, fun j z hj => absurd hj (Nat.not_lt_zero j)⟩) leZ (pqZ) ?_
              rintro y ⟨hy, hjs⟩
              refine WC_seq ?_
              refine WC_seq ?_
              refine WC_draw _ [(0, true), (1, true), (2, true), (3, true), (4, true), (5, true), (6, true), (7, true), (8, true), (9, true), (10, true), (11, false), (12, true), (13, true)] followsMixed rfl rfl (by kernel_rfl) .all ?_
              refine WM_val rfl rfl rfl rfl (R_move rfl rfl) ?_
              refine WM_val rfl rfl rfl rfl (R_move rfl rfl) ?_
              refine WM_val rfl rfl rfl rfl (R_len rfl Try.underlying27 rfl) ?_
              refine WM_val rfl rfl rfl rfl (R_lss rfl rfl rfl) ?_
              refine WM_val rfl rfl rfl rfl (R_move rfl rfl) ?_
              refine WM_splitD (s := 43) rfl (fun c6 => ?_) (fun c6 => ?_)
              · exfalso; omega
              · refine WM_skip rfl rfl rfl rfl ?_
                refine WM_skip rfl rfl rfl rfl ?_
                refine WM_skip rfl rfl rfl rfl ?_
                refine WM_skip rfl rfl rfl rfl ?_
                refine WM_skip rfl rfl rfl rfl ?_
                refine WM_skip rfl rfl rfl rfl ?_
                refine WM_skipF rfl rfl rfl rfl (pqZ) ?_
                refine WM_skip rfl rfl rfl rfl ?_
                refine WM_val rfl rfl rfl rfl (R_pickF rfl rfl rfl) ?_
                refine WM_nil ?_
                refine WQ_code ?_
                refine WC_F rfl ?_
                refine WC_exit ?_
                refine WQ_code ?_
                refine WC_seq ?_
                refine WC_draw _ [(0, true), (1, true), (2, true), (4, true), (5, true), (6, true), (3, false), (7, false), (8, true)] followsMixed rfl rfl (by kernel_rfl) .all ?_
                have hpos : insP ([] : List Bd) (s, ((49152 + frN ([] : List Bd) s : Nat) : Int)) = y := insP_eq hjs (.inl (by omega))
                obtain rfl : y = 0 := by omega
                refine WM_val rfl rfl rfl rfl (R_loadA (vs := [_, _]) rfl ag23 rfl (mmZ) rfl (atZ)) ?_
                refine WM_val rfl rfl rfl rfl (R_move rfl rfl) ?_
                refine WM_val rfl rfl rfl rfl (R_build rfl zv56 pl56 rfl rfl) ?_
                refine WM_val rfl rfl rfl rfl (R_move rfl rfl) ?_
                refine WM_val rfl rfl rfl rfl (R_move rfl rfl) ?_
                refine WM_val rfl rfl rfl rfl (R_sliceFromNil rfl Try.underlying27 Try.sizeOf56 rfl rfl) ?_
                refine WM_do rfl rfl rfl rfl (D_buildSlice rfl si27 rfl rfl rfl) ?_
                rintro _ _ ⟨b3, rfl, rfl⟩
                refine ⟨⟨_, pqZ⟩, ?_⟩
                refine WM_do rfl rfl rfl rfl (D_appendO rfl si27 rfl (own_lit3 _ ((s, ((49152 + frN ([] : List Bd) s : Nat) : Int)), v)) plZ rfl (Own.empty 3) mmZ rfl (by omega) (by omega)) ?_
                rintro _ _ ⟨o5, c5, tl5, rfl, own5, rfl⟩
                refine ⟨⟨_, pqZ⟩, ?_⟩
                refine WM_val rfl rfl rfl rfl (R_assign rfl rfl) ?_
                refine WM_nil ?_
                refine WQ_code ?_
                refine WC_seq ?_
                refine WC_drawR [⟨none, _⟩, ⟨some b2, _⟩] [(0, true), (1, true), (2, true), (4, true), (6, true), (3, false), (5, false), (7, true), (8, false), (9, true)] followsMixed rfl rfl (by kernel_rfl) (pqZ) ?_
                refine WM_val rfl rfl rfl rfl (R_move rfl rfl) ?_
                refine WM_val rfl rfl rfl rfl (R_move rfl rfl) ?_
                refine WM_val rfl rfl rfl rfl (R_sliceTo (m := 0) rfl Try.underlying27 Try.sizeOf56 rfl rfl (by have := own.le; omega)) ?_
                refine WM_val rfl rfl rfl rfl (R_move rfl rfl) ?_
                refine WM_val rfl rfl rfl rfl (R_loadA (vs := [_, _]) rfl ag23 rfl (mmZ) rfl (atZ)) ?_
                refine WM_do rfl rfl rfl rfl (D_appendO rfl si27 rfl (Own.empty 3) plZ rfl (Own.empty 3) mmZ rfl (by omega) (by omega)) ?_
                rintro _ _ ⟨o6, c6, tl6, rfl, own6, rfl⟩
                refine ⟨⟨_, pqZ⟩, ?_⟩
                refine WM_do rfl rfl rfl rfl (D_appendO rfl si27 rfl own6 plZ rfl own5 mmZ (encBd_one (((s, ((49152 + frN ([] : List Bd) s : Nat) : Int)), v) :: [])) (by omega) (by omega)) ?_
                rintro _ _ ⟨o7, c7, tl7, rfl, own7, rfl⟩
                refine ⟨⟨_, pqZ⟩, ?_⟩
                have hfl : [] ++ [] ++ (encBd ((s, ((49152 + frN ([] : List Bd) s : Nat) : Int)), v) ++ []) = (insB ([] : List Bd) ((s, ((49152 + frN ([] : List Bd) s : Nat) : Int)), v)).flatMap encBd := rfl
                have hln : 0 + 0 + (1 + 0) = (insB ([] : List Bd) ((s, ((49152 + frN ([] : List Bd) s : Nat) : Int)), v)).length := by rw [insB_len]; omega
                rw [hfl, hln] at own7
                rw [hfl, hln]
                refine WM_val rfl rfl rfl rfl (R_assign rfl rfl) ?_
                refine WM_do0 rfl rfl rfl (D_store (vs := [_, _]) rfl Try.sizeOf23 rfl rfl rfl rfl rfl (plZ) (by exact Nat.le_of_ble_eq_true rfl)) ?_
                rintro _ _ rfl
                refine ⟨⟨_, pqZ⟩, ?_⟩
                refine WM_val rfl rfl rfl rfl (R_assign rfl rfl) ?_
                refine WM_nil ?_
                refine WQ_code ?_
                refine WC_ret ?_
                refine WQ_ret rfl rfl (.cons (.tmp rfl) (.cons (.cell (vs := [_, _]) rfl ag23 (mmZ) rfl (atZ)) (.cons (.tmp rfl) .nil))) rfl (by
                    first | (have h9 := bnd_busy (W := ([] : List Bd)) (a := (s, p)) (v := v) (by simp_all) (by omega) (by rw [hk9]; rcases hv9 with ⟨e, _⟩ | ⟨i, u, _, hi⟩; omega; exact in_kys (List.mem_of_getElem? hi)); exact ⟨_, _, _, by rw [h9.1, h9.2.1, h9.2.2]; rfl, by rw [h9.2.1]; exact own, by rw [h9.2.1]⟩) | (have h9 := bnd_full (W := ([] : List Bd)) (a := (s, p)) (v := v) (by simp_all) (by omega) (by rw [hk9]; exact hno9) (by omega); exact ⟨_, _, _, by rw [h9.1, h9.2.1, h9.2.2]; rfl, by rw [h9.2.1]; exact own, by rw [h9.2.1]⟩) | (have h9 := bnd_ok (W := ([] : List Bd)) (a := (s, p)) (v := v) (by simp_all) (by omega) (by rw [hk9]; exact hno9) (by omega); rw [hk9] at h9; exact ⟨_, _, _, by rw [h9.1, h9.2.1, h9.2.2]; rfl, by rw [h9.2.1]; exact own7, by rw [h9.2.1]⟩)) (pqZ)
      · have hk9 : bndA ([] : List Bd) (s, p) = (s, p) := bndA_p (by assumption)
        · refine WC_skip ?_
          refine WQ_code ?_
          refine WC_seq ?_
          refine WC_seq ?_
          refine WC_region ?_
          refine WL_val rfl rfl rfl (R_move rfl rfl) ?_
          refine WL_val rfl rfl rfl (R_loadA (vs := [_, _]) rfl ag23 rfl (mmZ) rfl (atZ)) ?_
          refine WL_do rfl rfl rfl (D_call (qfind_ok own (by omega) s p) rfl rfl rfl rfl (pqZ)) ?_
          rintro _ _ ⟨_, ⟨v9, rfl, hv9, rfl⟩, rfl⟩
          refine WL_val rfl rfl rfl (R_geq rfl rfl rfl) ?_
          refine WL_nil ?_
          refine WQ_code ?_
          refine WC_dec rfl (fun c7 => ?_) (fun c7 => ?_)
          · refine WC_seq ?_
            refine WC_region ?_
            refine WL_val rfl rfl rfl (R_move rfl rfl) ?_
            refine WL_val rfl rfl rfl (R_build rfl zv23 pl23 rfl rfl) ?_
            refine WL_val rfl rfl rfl (R_assign rfl rfl) ?_
            refine WL_do0 rfl rfl (D_store (vs := [_, _]) rfl Try.sizeOf23 rfl rfl rfl rfl rfl (plZ) (by exact Nat.le_of_ble_eq_true rfl)) ?_
            rintro _ _ rfl
            refine WL_val rfl rfl rfl (R_assign rfl rfl) ?_
            refine WL_nil ?_
            refine WQ_code ?_
            refine WC_ret ?_
            refine WQ_ret rfl rfl (.cons (.tmp rfl) (.cons (.cell (vs := [_, _]) rfl ag23 (mmZ) rfl (atZ)) (.cons (.tmp rfl) .nil))) rfl (by
                first | (have h9 := bnd_busy (W := ([] : List Bd)) (a := (s, p)) (v := v) (by simp_all) (by omega) (by rw [hk9]; rcases hv9 with ⟨e, _⟩ | ⟨i, u, _, hi⟩; omega; exact in_kys (List.mem_of_getElem? hi)); exact ⟨_, _, _, by rw [h9.1, h9.2.1, h9.2.2]; rfl, by rw [h9.2.1]; exact own, by rw [h9.2.1]⟩) | (have h9 := bnd_full (W := ([] : List Bd)) (a := (s, p)) (v := v) (by simp_all) (by omega) (by rw [hk9]; exact hno9) (by omega); exact ⟨_, _, _, by rw [h9.1, h9.2.1, h9.2.2]; rfl, by rw [h9.2.1]; exact own, by rw [h9.2.1]⟩) | (have h9 := bnd_ok (W := ([] : List Bd)) (a := (s, p)) (v := v) (by simp_all) (by omega) (by rw [hk9]; exact hno9) (by omega); rw [hk9] at h9; exact ⟨_, _, _, by rw [h9.1, h9.2.1, h9.2.2]; rfl, by rw [h9.2.1]; exact own7, by rw [h9.2.1]⟩)) (pqZ)
          · have hno9 : ((s, p) : Ad) ∉ kys ([] : List Bd) := by rcases hv9 with ⟨_, e⟩ | ⟨i, u, e, hi⟩; exact e; omega
            refine WC_skip ?_
            refine WQ_code ?_
            refine WC_seq ?_
            refine WC_seq ?_
            refine WC_region ?_
            refine WL_val rfl rfl rfl (R_move rfl rfl) ?_
            refine WL_val rfl rfl rfl (R_len rfl Try.underlying27 rfl) ?_
            refine WL_val rfl rfl rfl (R_geq rfl rfl rfl) ?_
            refine WL_nil ?_
            refine WQ_code ?_
            refine WC_dec rfl (fun c8 => ?_) (fun c8 => ?_)
            · refine WC_seq ?_
              refine WC_region ?_
              refine WL_val rfl rfl rfl (R_move rfl rfl) ?_
              refine WL_val rfl rfl rfl (R_build rfl zv23 pl23 rfl rfl) ?_
              refine WL_val rfl rfl rfl (R_assign rfl rfl) ?_
              refine WL_do0 rfl rfl (D_store (vs := [_, _]) rfl Try.sizeOf23 rfl rfl rfl rfl rfl (plZ) (by exact Nat.le_of_ble_eq_true rfl)) ?_
              rintro _ _ rfl
              refine WL_val rfl rfl rfl (R_assign rfl rfl) ?_
              refine WL_nil ?_
              refine WQ_code ?_
              refine WC_ret ?_
              refine WQ_ret rfl rfl (.cons (.tmp rfl) (.cons (.cell (vs := [_, _]) rfl ag23 (mmZ) rfl (atZ)) (.cons (.tmp rfl) .nil))) rfl (by
                  first | (have h9 := bnd_busy (W := ([] : List Bd)) (a := (s, p)) (v := v) (by simp_all) (by omega) (by rw [hk9]; rcases hv9 with ⟨e, _⟩ | ⟨i, u, _, hi⟩; omega; exact in_kys (List.mem_of_getElem? hi)); exact ⟨_, _, _, by rw [h9.1, h9.2.1, h9.2.2]; rfl, by rw [h9.2.1]; exact own, by rw [h9.2.1]⟩) | (have h9 := bnd_full (W := ([] : List Bd)) (a := (s, p)) (v := v) (by simp_all) (by omega) (by rw [hk9]; exact hno9) (by omega); exact ⟨_, _, _, by rw [h9.1, h9.2.1, h9.2.2]; rfl, by rw [h9.2.1]; exact own, by rw [h9.2.1]⟩) | (have h9 := bnd_ok (W := ([] : List Bd)) (a := (s, p)) (v := v) (by simp_all) (by omega) (by rw [hk9]; exact hno9) (by omega); rw [hk9] at h9; exact ⟨_, _, _, by rw [h9.1, h9.2.1, h9.2.2]; rfl, by rw [h9.2.1]; exact own7, by rw [h9.2.1]⟩)) (pqZ)
            · refine WC_none 56 ?_
              refine WC_skip ?_
              refine WQ_code ?_
              refine WC_seq ?_
              refine WC_region ?_
              refine WL_val rfl rfl rfl (R_assign rfl rfl) ?_
              refine WL_nil ?_
              refine WQ_code ?_
              refine WC_seq ?_
              refine WC_block ?_
              refine WC_loopF (G := Nat) [9, 39, 40, 41, 42, 43, 44, 45, 46, 47, 48, 49, 50, 51, 52, 53, 54] (fun y => y ≤ ([] : List Bd).length ∧ ∀ (j : Nat) (z : Bd), j < y → ([] : List Bd)[j]? = some z → adLt z.1 (s, p)) (fun y => [(9, .int .i64 (y : Int))]) (fun y => []) (fun y => ([] : List Bd).length - y) (0) (⟨Nat.zero_le _, fun j z hj => absurd hj (Nat.not_lt_zero j)⟩) leZ (pqZ) ?_
              rintro y ⟨hy, hjs⟩
              refine WC_seq ?_
              refine WC_seq ?_
              refine WC_draw _ [(0, true), (1, true), (2, true), (3, true), (4, true), (5, true), (6, true), (7, true), (8, true), (9, true), (10, true), (11, false), (12, true), (13, true)] followsMixed rfl rfl (by kernel_rfl) .all ?_
              refine WM_val rfl rfl rfl rfl (R_move rfl rfl) ?_
              refine WM_val rfl rfl rfl rfl (R_move rfl rfl) ?_
              refine WM_val rfl rfl rfl rfl (R_len rfl Try.underlying27 rfl) ?_
              refine WM_val rfl rfl rfl rfl (R_lss rfl rfl rfl) ?_
              refine WM_val rfl rfl rfl rfl (R_move rfl rfl) ?_
              refine WM_splitD (s := 43) rfl (fun c9 => ?_) (fun c9 => ?_)
              · exfalso; omega
              · refine WM_skip rfl rfl rfl rfl ?_
                refine WM_skip rfl rfl rfl rfl ?_
                refine WM_skip rfl rfl rfl rfl ?_
                refine WM_skip rfl rfl rfl rfl ?_
                refine WM_skip rfl rfl rfl rfl ?_
                refine WM_skip rfl rfl rfl rfl ?_
                refine WM_skipF rfl rfl rfl rfl (pqZ) ?_
                refine WM_skip rfl rfl rfl rfl ?_
                refine WM_val rfl rfl rfl rfl (R_pickF rfl rfl rfl) ?_
                refine WM_nil ?_
                refine WQ_code ?_
                refine WC_F rfl ?_
                refine WC_exit ?_
                refine WQ_code ?_
                refine WC_seq ?_
                refine WC_draw _ [(0, true), (1, true), (2, true), (4, true), (5, true), (6, true), (3, false), (7, false), (8, true)] followsMixed rfl rfl (by kernel_rfl) .all ?_
                have hpos : insP ([] : List Bd) (s, p) = y := insP_eq hjs (.inl (by omega))
                obtain rfl : y = 0 := by omega
                refine WM_val rfl rfl rfl rfl (R_loadA (vs := [_, _]) rfl ag23 rfl (mmZ) rfl (atZ)) ?_
                refine WM_val rfl rfl rfl rfl (R_move rfl rfl) ?_
                refine WM_val rfl rfl rfl rfl (R_build rfl zv56 pl56 rfl rfl) ?_
                refine WM_val rfl rfl rfl rfl (R_move rfl rfl) ?_
                refine WM_val rfl rfl rfl rfl (R_move rfl rfl) ?_
                refine WM_val rfl rfl rfl rfl (R_sliceFromNil rfl Try.underlying27 Try.sizeOf56 rfl rfl) ?_
                refine WM_do rfl rfl rfl rfl (D_buildSlice rfl si27 rfl rfl rfl) ?_
                rintro _ _ ⟨b4, rfl, rfl⟩
                refine ⟨⟨_, pqZ⟩, ?_⟩
                refine WM_do rfl rfl rfl rfl (D_appendO rfl si27 rfl (own_lit3 _ ((s, p), v)) plZ rfl (Own.empty 3) mmZ rfl (by omega) (by omega)) ?_
                rintro _ _ ⟨o5, c5, tl5, rfl, own5, rfl⟩
                refine ⟨⟨_, pqZ⟩, ?_⟩
                refine WM_val rfl rfl rfl rfl (R_assign rfl rfl) ?_
                refine WM_nil ?_
                refine WQ_code ?_
                refine WC_seq ?_
                refine WC_drawR [⟨none, _⟩, ⟨some b2, _⟩] [(0, true), (1, true), (2, true), (4, true), (6, true), (3, false), (5, false), (7, true), (8, false), (9, true)] followsMixed rfl rfl (by kernel_rfl) (pqZ) ?_
                refine WM_val rfl rfl rfl rfl (R_move rfl rfl) ?_
                refine WM_val rfl rfl rfl rfl (R_move rfl rfl) ?_
                refine WM_val rfl rfl rfl rfl (R_sliceTo (m := 0) rfl Try.underlying27 Try.sizeOf56 rfl rfl (by have := own.le; omega)) ?_
                refine WM_val rfl rfl rfl rfl (R_move rfl rfl) ?_
                refine WM_val rfl rfl rfl rfl (R_loadA (vs := [_, _]) rfl ag23 rfl (mmZ) rfl (atZ)) ?_
                refine WM_do rfl rfl rfl rfl (D_appendO rfl si27 rfl (Own.empty 3) plZ rfl (Own.empty 3) mmZ rfl (by omega) (by omega)) ?_
                rintro _ _ ⟨o6, c6, tl6, rfl, own6, rfl⟩
                refine ⟨⟨_, pqZ⟩, ?_⟩
                refine WM_do rfl rfl rfl rfl (D_appendO rfl si27 rfl own6 plZ rfl own5 mmZ (encBd_one (((s, p), v) :: [])) (by omega) (by omega)) ?_
                rintro _ _ ⟨o7, c7, tl7, rfl, own7, rfl⟩
                refine ⟨⟨_, pqZ⟩, ?_⟩
                have hfl : [] ++ [] ++ (encBd ((s, p), v) ++ []) = (insB ([] : List Bd) ((s, p), v)).flatMap encBd := rfl
                have hln : 0 + 0 + (1 + 0) = (insB ([] : List Bd) ((s, p), v)).length := by rw [insB_len]; omega
                rw [hfl, hln] at own7
                rw [hfl, hln]
                refine WM_val rfl rfl rfl rfl (R_assign rfl rfl) ?_
                refine WM_do0 rfl rfl rfl (D_store (vs := [_, _]) rfl Try.sizeOf23 rfl rfl rfl rfl rfl (plZ) (by exact Nat.le_of_ble_eq_true rfl)) ?_
                rintro _ _ rfl
                refine ⟨⟨_, pqZ⟩, ?_⟩
                refine WM_val rfl rfl rfl rfl (R_assign rfl rfl) ?_
                refine WM_nil ?_
                refine WQ_code ?_
                refine WC_ret ?_
                refine WQ_ret rfl rfl (.cons (.tmp rfl) (.cons (.cell (vs := [_, _]) rfl ag23 (mmZ) rfl (atZ)) (.cons (.tmp rfl) .nil))) rfl (by
                    first | (have h9 := bnd_busy (W := ([] : List Bd)) (a := (s, p)) (v := v) (by simp_all) (by omega) (by rw [hk9]; rcases hv9 with ⟨e, _⟩ | ⟨i, u, _, hi⟩; omega; exact in_kys (List.mem_of_getElem? hi)); exact ⟨_, _, _, by rw [h9.1, h9.2.1, h9.2.2]; rfl, by rw [h9.2.1]; exact own, by rw [h9.2.1]⟩) | (have h9 := bnd_full (W := ([] : List Bd)) (a := (s, p)) (v := v) (by simp_all) (by omega) (by rw [hk9]; exact hno9) (by omega); exact ⟨_, _, _, by rw [h9.1, h9.2.1, h9.2.2]; rfl, by rw [h9.2.1]; exact own, by rw [h9.2.1]⟩) | (have h9 := bnd_ok (W := ([] : List Bd)) (a := (s, p)) (v := v) (by simp_all) (by omega) (by rw [hk9]; exact hno9) (by omega); rw [hk9] at h9; exact ⟨_, _, _, by rw [h9.1, h9.2.1, h9.2.2]; rfl, by rw [h9.2.1]; exact own7, by rw [h9.2.1]⟩)) (pqZ)

end Go.Proofs.Ytiomimjjdbijmaa
