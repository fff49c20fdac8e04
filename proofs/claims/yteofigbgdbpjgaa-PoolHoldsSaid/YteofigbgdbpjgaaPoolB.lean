/-
  Chapter 46 (pool), part PoolB: contracts of functions that the laws call, each for the heap it names.
-/
import Derived.Test.YteofigbgdbpjgaaRows
import Derived.Test.YteofigbgdbpjgaaZB
import Derived.Test.YteofigbgdbpjgaaSLMapJ
import Derived.Test.YteofigbgdbpjgaaSLScope
import Derived.Test.YteofigbgdbpjgaaTab
import Derived.Test.YteofigbgdbpjgaaPoolA
set_option linter.unusedVariables false
set_option maxRecDepth 20000
set_option maxHeartbeats 1000000
namespace Go.Proofs.Yteofigbgdbpjgaa


theorem proom_ok {m : PM} {s : PS} (h : PIs m s) : Spec Try.prog 42 [ptrP m.p] [poP m s] (fun r H' => r = .bool s.room ∧ H' = [poP m s]) := by
  have hlen := allI_len 0 s.C
  rw [h.cl] at hlen
  refine Spec.of (E := [(0, ptrP m.p)]) Try.func42 rfl (by kernel_rfl) Try.ntmps42 rfl rfl (fun w => ?_)
  refine WC_seq ?_
  refine WC_region ?_
  refine WL_val rfl rfl rfl (R_assign rfl rfl) ?_
  refine WL_nil ?_
  refine WQ_code ?_
  refine WC_seq ?_
  refine WC_draw ([poP m s]) [(0, true), (4, true), (5, true), (6, true), (7, true), (1, false), (2, true), (3, true), (8, true), (9, true)] followsMixed rfl rfl (by kernel_rfl) pqZ ?_
  refine WM_val rfl rfl rfl rfl (R_move rfl rfl) ?_
  refine WM_val rfl rfl rfl rfl (R_move rfl rfl) ?_
  refine WM_val rfl rfl rfl rfl (R_nilCheck rfl rfl) ?_
  refine WM_val rfl rfl rfl rfl (R_fieldAddr rfl fa71_0 rfl) ?_
  refine WM_val rfl rfl rfl rfl (R_load rfl sc3 rfl (mmZ) rfl) ?_
  refine WM_do rfl rfl rfl rfl (D_call (pall_ok h 0) rfl rfl rfl rfl (pqZ)) ?_
  rintro _ _ ⟨_, ⟨o9, c9, tl9, rfl, own9, rfl⟩, rfl⟩
  refine ⟨⟨_, pqZ⟩, ?_⟩
  refine WM_val rfl rfl rfl rfl (R_len rfl Try.underlying78 rfl) ?_
  refine WM_val rfl rfl rfl rfl (R_sub rfl rfl rfl (by omega)) ?_
  refine WM_val rfl rfl rfl rfl (R_lss rfl rfl rfl) ?_
  refine WM_val rfl rfl rfl rfl (R_assign rfl rfl) ?_
  refine WM_nil ?_
  refine WQ_code ?_
  refine WC_ret ?_
  refine WQ_ret rfl rfl (.cons (.tmp rfl) .nil) rfl (by
      exact ⟨congrArg Value.bool (by unfold PS.room PS.used; exact decide_eq_decide.2 (by omega)), rfl⟩) (pqZ)
theorem pdial_ok {m : PM} {s : PS} (h : PIs m s) (who : Int) (hne : allI 0 s.C ≠ []) : Spec Try.prog 43 [ptrP m.p, .int .i64 who] [poP m s] (fun r H' => r = .int .i64 (s.free : Int) ∧ H' = [poP m (s.dial who)]) := by
  obtain ⟨hf0, hfl, xf, hxf, hst⟩ := PS.free_of hne
  have hlp := List.length_pos_iff.2 hne
  have hcl := h.cl
  refine Spec.of (E := [(0, ptrP m.p), (1, .int .i64 who)]) Try.func43 rfl (by kernel_rfl) Try.ntmps43 rfl rfl (fun w => ?_)
  refine WC_seq ?_
  refine WC_region ?_
  refine WL_val rfl rfl rfl (R_assign rfl rfl) ?_
  refine WL_nil ?_
  refine WQ_code ?_
  refine WC_seq ?_
  refine WC_region ?_
  refine WL_val rfl rfl rfl (R_move rfl rfl) ?_
  refine WL_do rfl rfl rfl (D_call (pall_ok h 0) rfl rfl rfl rfl (pqZ)) ?_
  rintro _ _ ⟨_, ⟨o9, c9, tl9, rfl, own9, rfl⟩, rfl⟩
  obtain ⟨wa, hwa⟩ := own9.some_of (by omega)
  refine WL_val rfl rfl rfl (R_idxO (i := 0) hwa rfl Try.underlying78 Try.sizeOf3 rfl rfl (by omega)) ?_
  refine WL_val rfl rfl rfl (R_loadO (v := .int .i64 (s.free : Int)) hwa rfl sc3 rfl (mmZ) (fm_get0 encI1 hf0 (j := 0) (by omega))) ?_
  refine WL_val rfl rfl rfl (R_assign rfl rfl) ?_
  refine WL_nil ?_
  refine WQ_code ?_
  refine WC_seq ?_
  refine WC_region ?_
  refine WL_val rfl rfl rfl (R_move rfl rfl) ?_
  refine WL_val rfl rfl rfl (R_move rfl rfl) ?_
  refine WL_val rfl rfl rfl (R_move rfl rfl) ?_
  refine WL_val rfl rfl rfl (R_build rfl zv66 pl66 rfl rfl) ?_
  refine WL_val rfl rfl rfl (R_nilCheck rfl rfl) ?_
  refine WL_val rfl rfl rfl (R_fieldAddr rfl fa71_4 rfl) ?_
  refine WL_val rfl rfl rfl (R_indexAddrAN rfl Try.underlying67 Try.sizeOf66 rfl rfl (by omega)) ?_
  refine WL_do0 rfl rfl (D_store (vs := [_, _, _]) rfl Try.sizeOf66 rfl rfl rfl rfl rfl (plZ) (by exact pc_room h.cl rfl (by omega))) ?_
  rintro _ _ rfl
  rw [show putAt _ _ [.int .i64 (1), .int .i64 (who), .int .u64 (0)] = _ from pc_put (A := pcH _) rfl (y := ⟨1, who, 0⟩) hxf rfl]
  refine WL_nil ?_
  refine WQ_code ?_
  refine WC_seq ?_
  refine WC_region ?_
  refine WL_val rfl rfl rfl (R_move rfl rfl) ?_
  refine WL_val rfl rfl rfl (R_assign rfl rfl) ?_
  refine WL_nil ?_
  refine WQ_code ?_
  refine WC_ret ?_
  refine WQ_ret rfl rfl (.cons (.tmp rfl) .nil) rfl (by
      exact ⟨rfl, rfl⟩) (pqZ)
theorem ptell_ok {m : PM} {s : PS} (h : PIs m s) (k who c : Int) (hE : s.E.length ≤ 1000000) : Spec Try.prog 32 [ptrP m.p, .int .i64 k, .int .i64 who, .int .i64 c] [poP m s, poV m s] (fun r H' => ∃ ob ek ec epre etl, r = .tuple #[] ∧ H' = [poP { m with eb := ob, ek := ek, ec := ec, epre := epre, etl := etl } (s.tell k who c), poV { m with eb := ob, ek := ek, ec := ec, epre := epre, etl := etl } (s.tell k who c)] ∧ OwnS ob ek (s.tell k who c).E.length ec 3 epre ((s.tell k who c).E.flatMap encV) etl) := by
  refine Spec.of (E := [(0, ptrP m.p), (1, .int .i64 k), (2, .int .i64 who), (3, .int .i64 c)]) Try.func32 rfl (by kernel_rfl) Try.ntmps32 rfl rfl (fun w => ?_)
  refine WC_region ?_
  refine WL_val rfl rfl rfl (R_move rfl rfl) ?_
  refine WL_val rfl rfl rfl (R_move rfl rfl) ?_
  refine WL_val rfl rfl rfl (R_nilCheck rfl rfl) ?_
  refine WL_val rfl rfl rfl (R_fieldAddr rfl fa71_7 rfl) ?_
  refine WL_val rfl rfl rfl (R_load (v := sVal m.eb m.ek s.E.length m.ec) rfl sc56 rfl (mmZ) (pc_t h.cl rfl 2)) ?_
  refine WL_val rfl rfl rfl (R_move rfl rfl) ?_
  refine WL_val rfl rfl rfl (R_move rfl rfl) ?_
  refine WL_val rfl rfl rfl (R_move rfl rfl) ?_
  refine WL_val rfl rfl rfl (R_build rfl zv44 pl44 rfl rfl) ?_
  refine WL_do rfl rfl rfl (D_buildSlice rfl si56 rfl rfl rfl) ?_
  rintro _ _ ⟨b1, rfl, rfl⟩
  refine WL_do rfl rfl rfl (D_appendS rfl si56 rfl h.eO plZ rfl mmZ (atZ : At _ 0 [_, _, _]) rfl rfl (by decide) (by omega) (by omega)) ?_
  rintro _ _ ⟨obS, kS, cS, preS, tlS, rfl, ownS, rfl⟩
  refine WL_val rfl rfl rfl (R_nilCheck rfl rfl) ?_
  refine WL_val rfl rfl rfl (R_fieldAddr rfl fa71_7 rfl) ?_
  refine WL_do0 rfl rfl (D_store (vs := [_]) rfl Try.sizeOf56 rfl rfl rfl rfl rfl (plZ) (by exact pc_roomT h.cl rfl (j := 2) (by show 2 < 3; decide))) ?_
  rintro _ _ rfl
  rw [show putAt (pC m s) _ _ = _ from pc_putT h.cl (A := pcH s) rfl 2 _]
  refine WL_nil ?_
  have hsn : s.E.flatMap encV ++ [Value.int .i64 k, .int .i64 who, .int .i64 c] = (s.tell k who c).E.flatMap encV := by simp [PS.tell, encV]
  have hsl : s.E.length + 1 = (s.tell k who c).E.length := by simp [PS.tell]
  rw [hsn, hsl] at ownS ⊢
  refine WQ_ret rfl rfl .nil rfl (by
      exact ⟨obS, kS, cS, preS, tlS, rfl, rfl, ownS⟩) (pqZ)

end Go.Proofs.Yteofigbgdbpjgaa
