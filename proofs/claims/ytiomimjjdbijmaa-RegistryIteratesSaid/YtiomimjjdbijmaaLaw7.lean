/-
  Chapter 17 (registry), part Law7: contracts of functions that the laws call, each for the heap it names.
-/
import Derived.Test.YtiomimjjdbijmaaRows
import Derived.Test.YtiomimjjdbijmaaZB
import Derived.Test.YtiomimjjdbijmaaSLMapJ
import Derived.Test.YtiomimjjdbijmaaSLScope
import Derived.Test.YtiomimjjdbijmaaTab
import Derived.Test.YtiomimjjdbijmaaLaw5
import Derived.Test.YtiomimjjdbijmaaLaw2
set_option linter.unusedVariables false
set_option maxRecDepth 20000
set_option maxHeartbeats 4000000
namespace Go.Proofs.Ytiomimjjdbijmaa


theorem step_ok {W : List Bd} {r : Rg} (hr : RgIs W r) {o : Option Nat} {c : Nat} {tl : List Value} (own : Own o W.length c 3 (W.flatMap encBd) tl) (a : RA) : Spec Try.prog 22 [ptrR r.p, slV o W.length c, .agg #[.int .i64 a.wt, .string a.s, .int .i64 a.p, .int .i64 a.v]] (rgH r ++ [⟨o, cl (W.flatMap encBd ++ tl) 56⟩])
    (fun x H' => ∃ W' r' o' c' tl', x = .tuple #[ptrR r'.p, slV o' W'.length c', .bool true] ∧ RgIs W' r' ∧ Own o' W'.length c' 3 (W'.flatMap encBd) tl' ∧ H' = rgH r' ++ [⟨o', cl (W'.flatMap encBd ++ tl') 56⟩]) := by
  have hl := hr.len
  have hn := hr.nd
  refine Spec.of (E := [(0, ptrR r.p), (1, slV o W.length c), (2, .agg #[.int .i64 a.wt, .string a.s, .int .i64 a.p, .int .i64 a.v])]) Try.func22 rfl (by kernel_rfl) Try.ntmps22 rfl rfl (fun w => ?_)
  refine WC_seq ?_
  refine WC_region ?_
  refine WL_do rfl rfl rfl (D_box (cs := [_, _, _, _]) rfl rfl rfl) ?_
  rintro _ _ ⟨b1, rfl, rfl⟩
  refine WL_val rfl rfl rfl (R_assign rfl rfl) ?_
  refine WL_val rfl rfl rfl (R_assign rfl rfl) ?_
  refine WL_val rfl rfl rfl (R_assign rfl rfl) ?_
  refine WL_nil ?_
  refine WQ_code ?_
  refine WC_seq ?_
  refine WC_seq ?_
  refine WC_region ?_
  refine WL_val rfl rfl rfl (R_fieldAddr rfl fa41_0 rfl) ?_
  refine WL_val rfl rfl rfl (R_load rfl sc3 rfl (mmZ) rfl) ?_
  refine WL_nil ?_
  refine WQ_code ?_
  refine WC_block ?_
  refine WC_seq ?_
  refine WC_region ?_
  refine WL_val rfl rfl rfl (R_eql rfl rfl rfl) ?_
  refine WL_val rfl rfl rfl (R_assign rfl rfl) ?_
  refine WL_nil ?_
  refine WQ_code ?_
  refine WC_dec rfl (fun c1 => ?_) (fun c1 => ?_)
  · refine WC_seq ?_
    refine WC_region ?_
    refine WL_val rfl rfl rfl (R_move rfl rfl) ?_
    refine WL_val rfl rfl rfl (R_fieldAddr rfl fa41_1 rfl) ?_
    refine WL_val rfl rfl rfl (R_loadA (vs := [_, _]) rfl ag23 rfl (mmZ) rfl (atZ)) ?_
    refine WL_val rfl rfl rfl (R_fieldAddr rfl fa41_2 rfl) ?_
    refine WL_val rfl rfl rfl (R_load rfl sc3 rfl (mmZ) rfl) ?_
    refine WL_do rfl rfl rfl (D_call (qbind_ok own hl a.s a.p a.v) rfl rfl rfl rfl (pqZ)) ?_
    rintro _ _ ⟨_, ⟨o2, c2, tl2, rfl, own2, rfl⟩, rfl⟩
    refine WL_val rfl rfl rfl (R_move rfl rfl) ?_
    refine WL_val rfl rfl rfl (R_extract rfl rfl rfl) ?_
    refine WL_val rfl rfl rfl (R_extract rfl rfl rfl) ?_
    refine WL_val rfl rfl rfl (R_extract rfl rfl rfl) ?_
    refine WL_do rfl rfl rfl (D_alloc rfl zv23) ?_
    rintro _ _ ⟨b2, rfl, rfl⟩
    refine WL_val rfl rfl rfl (R_assign rfl rfl) ?_
    refine WL_do0 rfl rfl (D_store (vs := [_, _]) rfl Try.sizeOf23 rfl rfl rfl rfl rfl (plZ) (by exact Nat.le_of_ble_eq_true rfl)) ?_
    rintro _ _ rfl
    refine WL_val rfl rfl rfl (R_assign rfl rfl) ?_
    refine WL_nil ?_
    refine WQ_code ?_
    refine WC_seq ?_
    refine WC_region ?_
    refine WL_val rfl rfl rfl (R_move rfl rfl) ?_
    refine WL_val rfl rfl rfl (R_move rfl rfl) ?_
    refine WL_val rfl rfl rfl (R_move rfl rfl) ?_
    refine WL_val rfl rfl rfl (R_fieldAddr rfl fa41_1 rfl) ?_
    refine WL_val rfl rfl rfl (R_loadA (vs := [_, _]) rfl ag23 rfl (mmZ) rfl (atZ)) ?_
    refine WL_val rfl rfl rfl (R_fieldAddr rfl fa41_2 rfl) ?_
    refine WL_val rfl rfl rfl (R_load rfl sc3 rfl (mmZ) rfl) ?_
    refine WL_val rfl rfl rfl (R_loadA (vs := [_, _]) rfl ag23 rfl (mmZ) rfl (atZ)) ?_
    refine WL_val rfl rfl rfl (R_move rfl rfl) ?_
    refine WL_do rfl rfl rfl (D_call (binds_run hr a.s a.p a.v _ _ _ _ ⟨rfl, rfl⟩ rfl) rfl rfl rfl rfl (pqZ)) ?_
    rintro _ _ ⟨_, ⟨rfl, r2, rfl, p2, g2⟩, rfl⟩
    rw [← p2]
    refine WL_val rfl rfl rfl (R_assign rfl rfl) ?_
    refine WL_val rfl rfl rfl (R_assign rfl rfl) ?_
    refine WL_val rfl rfl rfl (R_assign rfl rfl) ?_
    refine WL_nil ?_
    refine WQ_code ?_
    refine WC_ret ?_
    refine WQ_ret rfl rfl (.cons (.tmp rfl) (.cons (.tmp rfl) (.cons (.tmp rfl) .nil))) rfl (by
        first | exact ⟨_, r2, o2, c2, tl2, rfl, g2, own2, rfl⟩ | exact ⟨_, r4, o, c, tl, rfl, g4, own, rfl⟩ | exact ⟨_, r, o, c, tl, rfl, hr, own, rfl⟩) (pqZ)
  · refine WC_seq ?_
    refine WC_region ?_
    refine WL_val rfl rfl rfl (R_eql rfl rfl rfl) ?_
    refine WL_val rfl rfl rfl (R_assign rfl rfl) ?_
    refine WL_nil ?_
    refine WQ_code ?_
    refine WC_dec rfl (fun c2 => ?_) (fun c2 => ?_)
    · refine WC_seq ?_
      refine WC_region ?_
      refine WL_val rfl rfl rfl (R_move rfl rfl) ?_
      refine WL_val rfl rfl rfl (R_fieldAddr rfl fa41_1 rfl) ?_
      refine WL_val rfl rfl rfl (R_loadA (vs := [_, _]) rfl ag23 rfl (mmZ) rfl (atZ)) ?_
      refine WL_do rfl rfl rfl (D_call (qrel_ok own hl hn a.s a.p) rfl rfl rfl rfl (pqZ)) ?_
      rintro _ _ ⟨_, ⟨o2, c2, tl2, rfl, own2, rfl⟩, rfl⟩
      refine WL_val rfl rfl rfl (R_move rfl rfl) ?_
      refine WL_val rfl rfl rfl (R_extract rfl rfl rfl) ?_
      refine WL_val rfl rfl rfl (R_extract rfl rfl rfl) ?_
      refine WL_val rfl rfl rfl (R_extract rfl rfl rfl) ?_
      refine WL_val rfl rfl rfl (R_assign rfl rfl) ?_
      refine WL_val rfl rfl rfl (R_assign rfl rfl) ?_
      refine WL_val rfl rfl rfl (R_assign rfl rfl) ?_
      refine WL_nil ?_
      refine WQ_code ?_
      refine WC_seq ?_
      refine WC_region ?_
      refine WL_val rfl rfl rfl (R_move rfl rfl) ?_
      refine WL_val rfl rfl rfl (R_fieldAddr rfl fa41_1 rfl) ?_
      refine WL_val rfl rfl rfl (R_loadA (vs := [_, _]) rfl ag23 rfl (mmZ) rfl (atZ)) ?_
      refine WL_do rfl rfl rfl (D_call (rrel_ok hr a.s a.p) rfl rfl rfl rfl (pqZ)) ?_
      rintro _ _ ⟨_, ⟨r2, rfl, rfl, p2, g2⟩, rfl⟩
      rw [← p2]
      refine WL_val rfl rfl rfl (R_move rfl rfl) ?_
      refine WL_val rfl rfl rfl (R_extract rfl rfl rfl) ?_
      refine WL_val rfl rfl rfl (R_extract rfl rfl rfl) ?_
      refine WL_val rfl rfl rfl (R_assign rfl rfl) ?_
      refine WL_val rfl rfl rfl (R_assign rfl rfl) ?_
      refine WL_nil ?_
      refine WQ_code ?_
      refine WC_seq ?_
      refine WC_region ?_
      refine WL_val rfl rfl rfl (R_move rfl rfl) ?_
      refine WL_val rfl rfl rfl (R_move rfl rfl) ?_
      refine WL_val rfl rfl rfl (R_move rfl rfl) ?_
      refine WL_val rfl rfl rfl (R_move rfl rfl) ?_
      refine WL_val rfl rfl rfl (R_eql rfl rfl rfl) ?_
      refine WL_set (s := 67) (v := .bool true) rfl (by simp) ?_
      refine WL_val rfl rfl rfl (R_move rfl rfl) ?_
      refine WL_val rfl rfl rfl (R_move rfl rfl) ?_
      refine WL_val rfl rfl rfl (R_move rfl rfl) ?_
      refine WL_val rfl rfl rfl (R_eql rfl rfl rfl) ?_
      refine WL_set (s := 71) (v := .bool true) rfl (by simp) ?_
      refine WL_val rfl rfl rfl (R_pickT rfl rfl rfl) ?_
      refine WL_val rfl rfl rfl (R_assign rfl rfl) ?_
      refine WL_val rfl rfl rfl (R_assign rfl rfl) ?_
      refine WL_val rfl rfl rfl (R_assign rfl rfl) ?_
      refine WL_nil ?_
      refine WQ_code ?_
      refine WC_ret ?_
      refine WQ_ret rfl rfl (.cons (.tmp rfl) (.cons (.tmp rfl) (.cons (.tmp rfl) .nil))) rfl (by
          first | exact ⟨_, r2, o2, c2, tl2, rfl, g2, own2, rfl⟩ | exact ⟨_, r4, o, c, tl, rfl, g4, own, rfl⟩ | exact ⟨_, r, o, c, tl, rfl, hr, own, rfl⟩) (pqZ)
    · refine WC_seq ?_
      refine WC_region ?_
      refine WL_val rfl rfl rfl (R_eql rfl rfl rfl) ?_
      refine WL_val rfl rfl rfl (R_assign rfl rfl) ?_
      refine WL_nil ?_
      refine WQ_code ?_
      refine WC_dec rfl (fun c3 => ?_) (fun c3 => ?_)
      · refine WC_seq ?_
        refine WC_region ?_
        refine WL_val rfl rfl rfl (R_move rfl rfl) ?_
        refine WL_val rfl rfl rfl (R_fieldAddr rfl fa41_1 rfl) ?_
        refine WL_val rfl rfl rfl (R_loadA (vs := [_, _]) rfl ag23 rfl (mmZ) rfl (atZ)) ?_
        refine WL_do rfl rfl rfl (D_call (qlook_ok own hl hn a.s a.p) rfl rfl rfl rfl (pqZ)) ?_
        rintro _ _ ⟨_, ⟨rfl, rfl⟩, rfl⟩
        refine WL_val rfl rfl rfl (R_move rfl rfl) ?_
        refine WL_val rfl rfl rfl (R_extract rfl rfl rfl) ?_
        refine WL_val rfl rfl rfl (R_extract rfl rfl rfl) ?_
        refine WL_val rfl rfl rfl (R_assign rfl rfl) ?_
        refine WL_val rfl rfl rfl (R_assign rfl rfl) ?_
        refine WL_nil ?_
        refine WQ_code ?_
        refine WC_seq ?_
        refine WC_region ?_
        refine WL_val rfl rfl rfl (R_move rfl rfl) ?_
        refine WL_val rfl rfl rfl (R_move rfl rfl) ?_
        refine WL_val rfl rfl rfl (R_move rfl rfl) ?_
        refine WL_val rfl rfl rfl (R_fieldAddr rfl fa41_1 rfl) ?_
        refine WL_val rfl rfl rfl (R_loadA (vs := [_, _]) rfl ag23 rfl (mmZ) rfl (atZ)) ?_
        refine WL_val rfl rfl rfl (R_move rfl rfl) ?_
        refine WL_val rfl rfl rfl (R_move rfl rfl) ?_
        refine WL_do rfl rfl rfl (D_call (finds_run hr a.s a.p _ _ rfl) rfl rfl rfl rfl (pqZ)) ?_
        rintro _ _ ⟨_, ⟨rfl, rfl⟩, rfl⟩
        refine WL_val rfl rfl rfl (R_assign rfl rfl) ?_
        refine WL_val rfl rfl rfl (R_assign rfl rfl) ?_
        refine WL_val rfl rfl rfl (R_assign rfl rfl) ?_
        refine WL_nil ?_
        refine WQ_code ?_
        refine WC_ret ?_
        refine WQ_ret rfl rfl (.cons (.tmp rfl) (.cons (.tmp rfl) (.cons (.tmp rfl) .nil))) rfl (by
            first | exact ⟨_, r2, o2, c2, tl2, rfl, g2, own2, rfl⟩ | exact ⟨_, r4, o, c, tl, rfl, g4, own, rfl⟩ | exact ⟨_, r, o, c, tl, rfl, hr, own, rfl⟩) (pqZ)
      · refine WC_seq ?_
        refine WC_region ?_
        refine WL_val rfl rfl rfl (R_eql rfl rfl rfl) ?_
        refine WL_val rfl rfl rfl (R_assign rfl rfl) ?_
        refine WL_nil ?_
        refine WQ_code ?_
        refine WC_dec rfl (fun c4 => ?_) (fun c4 => ?_)
        · cases hvn : validN a.s
          · refine WC_seq ?_
            refine WC_region ?_
            refine WL_val rfl rfl rfl (R_move rfl rfl) ?_
            refine WL_val rfl rfl rfl (R_fieldAddr rfl fa41_1 rfl) ?_
            refine WL_val rfl rfl rfl (R_fieldAddr rfl fa23_0 rfl) ?_
            refine WL_val rfl rfl rfl (R_load rfl sc9 rfl (mmZ) rfl) ?_
            refine WL_do rfl rfl rfl (D_call (free_bad hr a.s hvn) rfl rfl rfl rfl (pqZ)) ?_
            rintro _ _ ⟨_, ⟨rfl, rfl⟩, rfl⟩
            refine WL_val rfl rfl rfl (R_move rfl rfl) ?_
            refine WL_val rfl rfl rfl (R_extract rfl rfl rfl) ?_
            refine WL_val rfl rfl rfl (R_extract rfl rfl rfl) ?_
            refine WL_val rfl rfl rfl (R_assign rfl rfl) ?_
            refine WL_val rfl rfl rfl (R_assign rfl rfl) ?_
            refine WL_nil ?_
            refine WQ_code ?_
            refine WC_seq ?_
            refine WC_seq ?_
            refine WC_region ?_
            refine WL_val rfl rfl rfl (R_fieldAddr rfl fa41_1 rfl) ?_
            refine WL_val rfl rfl rfl (R_fieldAddr rfl fa23_0 rfl) ?_
            refine WL_val rfl rfl rfl (R_load rfl sc9 rfl (mmZ) rfl) ?_
            refine WL_do rfl rfl rfl (D_call (rname_ok a.s) rfl rfl rfl rfl (pqZ)) ?_
            rintro _ _ ⟨_, ⟨rfl, rfl⟩, rfl⟩
            refine WL_set (s := 103) (v := .bool false) rfl (by exact congrArg Value.bool hvn) ?_
            refine WL_val rfl rfl rfl (R_not rfl rfl) ?_
            refine WL_nil ?_
            refine WQ_code ?_
            refine WC_T rfl ?_
            refine WC_seq ?_
            refine WC_region ?_
            refine WL_val rfl rfl rfl (R_move rfl rfl) ?_
            refine WL_val rfl rfl rfl (R_move rfl rfl) ?_
            refine WL_val rfl rfl rfl (R_move rfl rfl) ?_
            refine WL_val rfl rfl rfl (R_eql rfl rfl rfl) ?_
            refine WL_set (s := 108) (v := .bool true) rfl (by simp) ?_
            refine WL_val rfl rfl rfl (R_move rfl rfl) ?_
            refine WL_val rfl rfl rfl (R_move rfl rfl) ?_
            refine WL_val rfl rfl rfl (R_eql rfl rfl rfl) ?_
            refine WL_set (s := 111) (v := .bool true) rfl (by simp) ?_
            refine WL_val rfl rfl rfl (R_pickT rfl rfl rfl) ?_
            refine WL_val rfl rfl rfl (R_assign rfl rfl) ?_
            refine WL_val rfl rfl rfl (R_assign rfl rfl) ?_
            refine WL_val rfl rfl rfl (R_assign rfl rfl) ?_
            refine WL_nil ?_
            refine WQ_code ?_
            refine WC_ret ?_
            refine WQ_ret rfl rfl (.cons (.tmp rfl) (.cons (.tmp rfl) (.cons (.tmp rfl) .nil))) rfl (by
                first | exact ⟨_, r2, o2, c2, tl2, rfl, g2, own2, rfl⟩ | exact ⟨_, r4, o, c, tl, rfl, g4, own, rfl⟩ | exact ⟨_, r, o, c, tl, rfl, hr, own, rfl⟩) (pqZ)
          · refine WC_seq ?_
            refine WC_region ?_
            refine WL_val rfl rfl rfl (R_move rfl rfl) ?_
            refine WL_val rfl rfl rfl (R_fieldAddr rfl fa41_1 rfl) ?_
            refine WL_val rfl rfl rfl (R_fieldAddr rfl fa23_0 rfl) ?_
            refine WL_val rfl rfl rfl (R_load rfl sc9 rfl (mmZ) rfl) ?_
            refine WL_do rfl rfl rfl (D_call (free_run hr a.s hvn _ rfl) rfl rfl rfl rfl (pqZ)) ?_
            rintro _ _ ⟨_, ⟨rfl, rfl⟩, rfl⟩
            refine WL_val rfl rfl rfl (R_move rfl rfl) ?_
            refine WL_val rfl rfl rfl (R_extract rfl rfl rfl) ?_
            refine WL_val rfl rfl rfl (R_extract rfl rfl rfl) ?_
            refine WL_val rfl rfl rfl (R_assign rfl rfl) ?_
            refine WL_val rfl rfl rfl (R_assign rfl rfl) ?_
            refine WL_nil ?_
            refine WQ_code ?_
            refine WC_seq ?_
            refine WC_seq ?_
            refine WC_region ?_
            refine WL_val rfl rfl rfl (R_fieldAddr rfl fa41_1 rfl) ?_
            refine WL_val rfl rfl rfl (R_fieldAddr rfl fa23_0 rfl) ?_
            refine WL_val rfl rfl rfl (R_load rfl sc9 rfl (mmZ) rfl) ?_
            refine WL_do rfl rfl rfl (D_call (rname_ok a.s) rfl rfl rfl rfl (pqZ)) ?_
            rintro _ _ ⟨_, ⟨rfl, rfl⟩, rfl⟩
            refine WL_set (s := 103) (v := .bool true) rfl (by exact congrArg Value.bool hvn) ?_
            refine WL_val rfl rfl rfl (R_not rfl rfl) ?_
            refine WL_nil ?_
            refine WQ_code ?_
            refine WC_F rfl ?_
            refine WC_skip ?_
            refine WQ_code ?_
            refine WC_seq ?_
            refine WC_region ?_
            refine WL_val rfl rfl rfl (R_move rfl rfl) ?_
            refine WL_val rfl rfl rfl (R_move rfl rfl) ?_
            refine WL_val rfl rfl rfl (R_move rfl rfl) ?_
            refine WL_val rfl rfl rfl (R_move rfl rfl) ?_
            refine WL_val rfl rfl rfl (R_fieldAddr rfl fa41_1 rfl) ?_
            refine WL_val rfl rfl rfl (R_fieldAddr rfl fa23_0 rfl) ?_
            refine WL_val rfl rfl rfl (R_load rfl sc9 rfl (mmZ) rfl) ?_
            refine WL_do rfl rfl rfl (D_call (qfree_ok own hl a.s) rfl rfl rfl rfl (pqZ)) ?_
            rintro _ _ ⟨_, ⟨rfl, rfl⟩, rfl⟩
            refine WL_val rfl rfl rfl (R_eql rfl rfl rfl) ?_
            refine WL_set (s := 121) (v := .bool true) rfl (by simp) ?_
            refine WL_val rfl rfl rfl (R_move rfl rfl) ?_
            refine WL_val rfl rfl rfl (R_move rfl rfl) ?_
            refine WL_val rfl rfl rfl (R_eql rfl rfl rfl) ?_
            refine WL_set (s := 124) (v := .bool true) rfl (by simp) ?_
            refine WL_val rfl rfl rfl (R_pickT rfl rfl rfl) ?_
            refine WL_val rfl rfl rfl (R_assign rfl rfl) ?_
            refine WL_val rfl rfl rfl (R_assign rfl rfl) ?_
            refine WL_val rfl rfl rfl (R_assign rfl rfl) ?_
            refine WL_nil ?_
            refine WQ_code ?_
            refine WC_ret ?_
            refine WQ_ret rfl rfl (.cons (.tmp rfl) (.cons (.tmp rfl) (.cons (.tmp rfl) .nil))) rfl (by
                first | exact ⟨_, r2, o2, c2, tl2, rfl, g2, own2, rfl⟩ | exact ⟨_, r4, o, c, tl, rfl, g4, own, rfl⟩ | exact ⟨_, r, o, c, tl, rfl, hr, own, rfl⟩) (pqZ)
        · refine WC_skip ?_
          refine WQ_code ?_
          refine WC_seq ?_
          refine WC_region ?_
          refine WL_val rfl rfl rfl (R_move rfl rfl) ?_
          refine WL_do rfl rfl rfl (D_call (rcopy_ok hr) rfl rfl rfl rfl (pqZ)) ?_
          rintro _ _ ⟨_, ⟨r4, rfl, rfl, g4⟩, rfl⟩
          refine WL_val rfl rfl rfl (R_assign rfl rfl) ?_
          refine WL_nil ?_
          refine WQ_code ?_
          refine WC_seq ?_
          refine WC_region ?_
          refine WL_val rfl rfl rfl (R_move rfl rfl) ?_
          refine WL_do rfl rfl rfl (D_call (to_ok _ _) rfl rfl rfl rfl (pqZ)) ?_
          rintro _ _ ⟨_, ⟨rfl, rfl⟩, rfl⟩
          refine WL_do rfl rfl rfl (D_call (rbind_ok hr ⟨#[99, 111, 112, 121]⟩ 0 1) rfl rfl rfl rfl (pqZ)) ?_
          rintro _ _ ⟨_, ⟨r2, rfl, rfl, p2, g2⟩, rfl⟩
          rw [← p2]
          refine WL_nil ?_
          refine WQ_code ?_
          refine WC_seq ?_
          refine WC_region ?_
          refine WL_val rfl rfl rfl (R_move rfl rfl) ?_
          refine WL_val rfl rfl rfl (R_fieldAddr rfl fa41_1 rfl) ?_
          refine WL_val rfl rfl rfl (R_loadA (vs := [_, _]) rfl ag23 rfl (mmZ) rfl (atZ)) ?_
          refine WL_do rfl rfl rfl (D_call (rrel_ok g2 a.s a.p) rfl rfl rfl rfl (pqZ)) ?_
          rintro _ _ ⟨_, ⟨r3, rfl, rfl, p3, g3⟩, rfl⟩
          rw [← p3]
          refine WL_nil ?_
          refine WQ_code ?_
          refine WC_seq ?_
          refine WC_region ?_
          refine WL_val rfl rfl rfl (R_move rfl rfl) ?_
          refine WL_val rfl rfl rfl (R_move rfl rfl) ?_
          refine WL_val rfl rfl rfl (R_move rfl rfl) ?_
          refine WL_val rfl rfl rfl (R_ptrNeNil rfl Try.underlying25 rfl) ?_
          refine WL_set (s := 138) (v := .bool true) rfl (by rfl) ?_
          refine WL_val rfl rfl rfl (R_assign rfl rfl) ?_
          refine WL_val rfl rfl rfl (R_assign rfl rfl) ?_
          refine WL_val rfl rfl rfl (R_assign rfl rfl) ?_
          refine WL_nil ?_
          refine WQ_code ?_
          refine WC_ret ?_
          refine WQ_ret rfl rfl (.cons (.tmp rfl) (.cons (.tmp rfl) (.cons (.tmp rfl) .nil))) rfl (by
              first | exact ⟨_, r2, o2, c2, tl2, rfl, g2, own2, rfl⟩ | exact ⟨_, r4, o, c, tl, rfl, g4, own, rfl⟩ | exact ⟨_, r, o, c, tl, rfl, hr, own, rfl⟩) (pqZ)

end Go.Proofs.Ytiomimjjdbijmaa
