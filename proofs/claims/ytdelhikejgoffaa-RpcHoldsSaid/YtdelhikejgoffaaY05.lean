/-
  Chapter 45 (rpc), part RowMoves: contracts of functions that the laws call, each for the heap it names.
-/
import Derived.Test.YtdelhikejgoffaaY04
import Derived.Test.YtdelhikejgoffaaRows
section
set_option linter.unusedVariables false
set_option maxRecDepth 20000
set_option maxHeartbeats 8000000
namespace Go.Proofs.Ytdelhikejgoffaa
structure HoD2 where
  i : Nat
theorem holds_do (l : List Mv) (hl : l.length ≤ 9223372036854775807) {ol : Option Addr} {cl9 : Nat} (DH : Heap) (hdat : ∀ m ∈ l, ∃ en ∈ DH, RdB m.oa en m.data) (hsz : ∀ m ∈ l, m.data.length ≤ 9223372036854775807) (hlst : 0 < l.length → ∃ b k cs e fr, ol = some ⟨b, k, none⟩ ∧ (⟨some b, .cells (List.toArray cs) e fr⟩ : Ent) ∈ DH ∧ ∀ (i : Nat) (m : Mv), l[i]? = some m → At cs (k + i * 3) (encMv m)) (h40 : ¬ 40 < l.length) : Spec Try.prog 4 [.slice ol l.length cl9] DH (fun r H' => r = .bool true ∧ H' = DH) := by
  refine Spec.of (E := [(0, .slice ol l.length cl9)]) Try.func4 rfl (by kernel_rfl) Try.ntmps4 rfl rfl (fun w => ?_)
  refine WC_seq ?_
  refine WC_region ?_
  refine WL_val rfl rfl rfl (R_assign rfl rfl) ?_
  refine WL_nil ?_
  refine WQ_code ?_
  refine WC_seq ?_
  refine WC_seq ?_
  refine WC_region ?_
  refine WL_val rfl rfl rfl (R_move rfl rfl) ?_
  refine WL_val rfl rfl rfl (R_len rfl Try.underlying50 rfl) ?_
  refine WL_val rfl rfl rfl (R_gtr rfl rfl rfl) ?_
  refine WL_nil ?_
  refine WQ_code ?_
  refine WC_dF rfl (by omega) ?_
  refine WC_skip ?_
  refine WQ_code ?_
  refine WC_seq ?_
  refine WC_region ?_
  refine WL_val rfl rfl rfl (R_build rfl zv34 pl34 rfl rfl) ?_
  refine WL_do rfl rfl rfl (D_box (cs := [_, _, _, _, _, _, _, _, _]) rfl rfl rfl) ?_
  rintro _ _ ⟨b1, rfl, rfl⟩
  obtain ⟨gpc0, hpc0, hx1⟩ := c_new b1
  refine WL_turn hx1 plD ?_
  refine WL_val rfl rfl rfl (R_build rfl zv39 pl39 rfl rfl) ?_
  refine WL_do rfl rfl rfl (D_box (cs := [_, _, _, _, _, _, _]) rfl rfl rfl) ?_
  rintro _ _ ⟨b2, rfl, rfl⟩
  obtain ⟨gpv0, hpv0, hx2⟩ := s_new b2
  refine WL_turn hx2 plD ?_
  refine WL_val rfl rfl rfl (R_assign rfl rfl) ?_
  refine WL_val rfl rfl rfl (R_assign rfl rfl) ?_
  refine WL_nil ?_
  refine WQ_code ?_
  refine WC_seq ?_
  refine WC_region ?_
  refine WL_val rfl rfl rfl (R_assign rfl rfl) ?_
  refine WL_nil ?_
  refine WQ_code ?_
  refine WC_seq ?_
  refine WC_draw _ [(1, true), (0, false), (2, true)] followsMixed rfl rfl (by kernel_rfl) .all ?_
  refine WM_val rfl rfl rfl rfl (R_assign rfl rfl) ?_
  refine WM_do rfl rfl rfl rfl (D_make (n := 41) rfl si36 rfl rfl (by decide) (by decide)) ?_
  rintro _ _ ⟨b3, rfl, rfl⟩
  refine ⟨⟨_, pqD⟩, ?_⟩
  refine WM_val rfl rfl rfl rfl (R_assign rfl rfl) ?_
  refine WM_nil ?_
  refine WQ_code ?_
  refine WC_seq ?_
  refine WC_region ?_
  refine WL_do rfl rfl rfl (D_make (n := 41) rfl si51 rfl rfl (by decide) (by decide)) ?_
  rintro _ _ ⟨b4, rfl, rfl⟩
  refine WL_val rfl rfl rfl (R_assign rfl rfl) ?_
  refine WL_nil ?_
  refine WQ_code ?_
  refine WC_seq ?_
  refine WC_region ?_
  refine WL_do rfl rfl rfl (D_make (n := 41) rfl si52 rfl rfl (by decide) (by decide)) ?_
  rintro _ _ ⟨b5, rfl, rfl⟩
  refine WL_val rfl rfl rfl (R_assign rfl rfl) ?_
  refine WL_nil ?_
  refine WQ_code ?_
  refine WC_seq ?_
  refine WC_region ?_
  refine WL_val rfl rfl rfl (R_assign rfl rfl) ?_
  refine WL_nil ?_
  refine WQ_code ?_
  refine WC_seq ?_
  refine WC_seq ?_
  refine WC_region ?_
  refine WL_val rfl rfl rfl (R_assign rfl rfl) ?_
  refine WL_nil ?_
  refine WQ_code ?_
  refine WC_block ?_
  refine WC_none 3 ?_
  refine WC_loopF (G := HoW) [2, 5, 6, 10, 11, 12, 13, 14, 15, 16, 17, 18, 19, 20, 21, 22, 23, 24, 25, 26, 39, 40, 41, 42, 43, 44, 45, 46, 47, 48, 49, 50, 51, 52, 53, 54, 55, 56, 57, 58, 59, 60, 61, 62, 63, 64, 65, 66, 67, 68, 69, 70, 71, 72, 73, 74, 75, 76, 77, 78, 79, 80, 81, 82, 83, 84, 85, 86, 87, 88, 89, 90, 91, 92, 93, 94, 95, 96, 97, 98, 99, 100, 101, 102, 103, 104, 105, 106, 107, 108, 109, 110, 111, 112, 113, 114, 115, 116, 117, 118, 119, 120, 121, 122, 123, 124, 125, 126, 127, 128, 129, 130, 131, 132, 133, 134, 135, 136, 137, 138, 139, 140, 141, 142, 143, 144, 145, 146, 147, 148, 149, 150, 151, 152, 153, 154, 155, 156, 157, 158, 159, 160, 161, 162, 163, 164, 165, 166, 167, 168, 169, 170, 171, 172, 173, 174, 175, 176, 177, 178, 179, 180, 181, 182, 183, 184, 185, 186, 187, 188, 189, 190, 191, 192, 193, 194, 195, 196, 197, 198, 199, 200, 201, 202, 203, 204, 205, 206, 207, 208, 209, 210, 211, 212, 213, 214, 215, 216, 217, 218, 219, 220, 221, 222, 223, 224, 225, 226, 227, 228, 229, 230, 231, 232, 233, 234, 235, 236, 237, 238, 239, 240, 241, 242, 243, 244, 245, 246, 247, 248, 249, 250, 251, 252, 253, 254, 255, 256, 257, 258, 259, 260, 261, 262, 263, 264, 265, 266, 267, 268, 269, 270, 271, 272, 273, 274, 275, 276, 277, 278, 279, 280, 281, 282, 283, 284, 285, 286, 287, 288, 289, 290, 291, 292, 293, 294, 295, 296, 297, 298, 299, 300] (fun y => y.i ≤ l.length + 1 ∧ CGd y.g b1 y.v ∧ SGd y.h b2 y.u ∧ HI y.i y.v y.u y.made y.now (fR y.LR) (fD y.LD) (fP y.LP) y.T ∧ y.LR.length = 41 ∧ y.LP.length = 41 ∧ y.LD.length = 41 ∧ Own y.oT y.T.length y.cT 1 (ivs y.T) y.tT ∧ y.T.length ≤ y.i ∧ y.made ≤ l.length ∧ y.v.res = [] ∧ (y.i ≤ l.length → y.v.closed = false) ∧ (y.i = l.length + 1 → y.v.calls = [])) (fun y => [(11, .int .i64 (y.i : Int)), (5, .int .u64 (y.now : Int)), (6, .int .i64 (y.made : Int)), (10, slV y.oT y.T.length y.cT)]) (fun y => cH y.g ++ sH y.h ++ [⟨some b3, cl (ivs y.LR ++ []) 3⟩, ⟨some b4, cl (y.LP.flatMap encP ++ []) 9⟩, ⟨some b5, cl (y.LD.flatMap encD ++ []) 4⟩, ⟨y.oT, cl (ivs y.T ++ y.tT) 3⟩]) (fun y => l.length + 1 - y.i) (⟨0, gpc0, gpv0, pc0, pv0, 0, 0, List.replicate 41 0, List.replicate 41 ⟨#[]⟩, List.replicate 41 false, [], none, 0, []⟩) (⟨Nat.zero_le _, hpc0, hpv0, (by dsimp only; rw [fR0, fD0, fP0]; exact hi_new), rfl, rfl, rfl, Own.empty 1, Nat.le_refl _, Nat.zero_le _, rfl, (fun _ => rfl), (fun e => absurd e (by simp))⟩) leZ (pqD) ?_
  rintro y ⟨hin, hg, hh, hi, hlR, hlP, hlD, hoT, htl, hmk, hres, hcl0, hce⟩
  refine WC_seq ?_
  refine WC_seq ?_
  refine WC_region ?_
  refine WL_val rfl rfl rfl (R_move rfl rfl) ?_
  refine WL_val rfl rfl rfl (R_move rfl rfl) ?_
  refine WL_val rfl rfl rfl (R_len rfl Try.underlying50 rfl) ?_
  refine WL_val rfl rfl rfl (R_leq rfl rfl rfl) ?_
  refine WL_nil ?_
  refine WQ_code ?_
  refine WC_dec rfl (fun c1 => ?_) (fun c1 => ?_)
  · refine WC_skip ?_
    refine WQ_code ?_
    refine WC_seq ?_
    refine WC_block ?_
    refine WC_seq ?_
    refine WC_region ?_
    refine WL_do rfl rfl rfl (D_alloc rfl zv54) ?_
    rintro _ _ ⟨b6, rfl, rfl⟩
    refine WL_nil ?_
    refine WQ_code ?_
    refine WC_seq ?_
    refine WC_seq ?_
    refine WC_region ?_
    refine WL_val rfl rfl rfl (R_move rfl rfl) ?_
    refine WL_val rfl rfl rfl (R_move rfl rfl) ?_
    refine WL_val rfl rfl rfl (R_len rfl Try.underlying50 rfl) ?_
    refine WL_val rfl rfl rfl (R_eql rfl rfl rfl) ?_
    refine WL_nil ?_
    refine WQ_code ?_
    refine WC_dec rfl (fun c2 => ?_) (fun c2 => ?_)
    · skip
      · refine WC_seq ?_
        refine WC_region ?_
        refine WL_val rfl rfl rfl (R_move rfl rfl) ?_
        have hcl := hcl0 (by omega)
        have hcls := hi.close hcl
        refine WL_do rfl rfl rfl (D_call (k_close hg (hi.pcb (by omega))) rfl rfl rfl rfl (pqD)) ?_
        rintro _ _ ⟨_, ⟨gC, hgC, rfl, rfl⟩, rfl⟩
        refine WL_val rfl rfl rfl (R_neq rfl rfl rfl) ?_
        refine WL_set (s := 51) (v := .bool false) rfl (by exact congrArg Value.bool (decide_eq_false (fun e => e hcls.1))) ?_
        refine WL_nil ?_
        refine WQ_code ?_
        refine WC_F rfl ?_
        refine WC_skip ?_
        refine WQ_code ?_
        refine WC_seq ?_
        refine WC_seq ?_
        refine WC_region ?_
        refine WL_val rfl rfl rfl (R_fieldAddr rfl fa54_2 rfl) ?_
        refine WL_val rfl rfl rfl (R_load rfl sc23 rfl (mmD) rfl) ?_
        refine WL_val rfl rfl rfl (R_len rfl Try.underlying23 rfl) ?_
        refine WL_val rfl rfl rfl (R_gtr rfl rfl rfl) ?_
        refine WL_nil ?_
        refine WQ_code ?_
        refine WC_dF rfl (by decide) ?_
        refine WC_skip ?_
        refine WQ_code ?_
        refine WC_seq ?_
        refine WC_region ?_
        refine WL_val rfl rfl rfl (R_fieldAddr rfl fa54_1 rfl) ?_
        obtain ⟨mm, hmm, hmm6⟩ := clampN 0
        refine WL_val rfl rfl rfl (R_load rfl sc3 rfl (mmD) rfl) ?_
        refine WL_val rfl rfl rfl (R_min rfl rfl rfl) ?_
        refine WL_val rfl rfl rfl (R_max rfl rfl rfl) ?_
        refine WL_set (s := 64) (v := .int .i64 (mm : Int)) rfl (by rw [hmm]) ?_
        refine WL_val rfl rfl rfl (R_assign rfl rfl) ?_
        refine WL_nil ?_
        refine WQ_code ?_
        refine WC_cutF (G := HoW) [2, 5, 6, 10, 14, 15, 16, 17, 18, 19, 20, 21, 22, 23, 65, 66, 67, 68, 69, 70, 71, 72, 73, 74, 75, 76, 77, 78, 79, 80, 81, 82, 83, 84, 85, 86, 87, 88, 89, 90, 91, 92, 93, 94, 95, 96, 97, 98, 99, 100, 101, 102, 103, 104, 105, 106, 107, 108, 109, 110, 111, 112, 113, 114, 115, 116, 117, 118, 119, 120, 121, 122, 123, 124, 125, 126, 127, 128, 129, 130, 131, 132, 133, 134, 135, 136, 137, 138, 139, 140, 141, 142, 143, 144, 145, 146, 147, 148, 149, 150, 151, 152, 153, 154, 155, 156, 157, 158, 159, 160, 161, 162, 163, 164, 165, 166, 167, 168, 169, 170, 171, 172, 173, 174, 175, 176, 177, 178, 179, 180, 181, 182, 183, 184, 185, 186, 187, 188, 189, 190, 191, 192, 193, 194, 195, 196, 197, 198, 199, 200, 201, 202, 203, 204] (fun z => CGd z.g b1 z.v ∧ SGd z.h b2 z.u ∧ HI (y.i + 1) z.v z.u z.made z.now (fR z.LR) (fD z.LD) (fP z.LP) z.T ∧ z.LR.length = 41 ∧ z.LP.length = 41 ∧ z.LD.length = 41 ∧ Own z.oT z.T.length z.cT 1 (ivs z.T) z.tT ∧ z.T.length ≤ (y.i + 1) ∧ z.made ≤ l.length ∧ (y.i < l.length → z.v.closed = false) ∧ (y.i = l.length → z.v.calls = [])) (fun z => [(5, .int .u64 (z.now : Int)), (6, .int .i64 (z.made : Int)), (10, slV z.oT z.T.length z.cT)]) (fun z => cH z.g ++ sH z.h ++ [⟨some b3, cl (ivs z.LR ++ []) 3⟩, ⟨some b4, cl (z.LP.flatMap encP ++ []) 9⟩, ⟨some b5, cl (z.LD.flatMap encD ++ []) 4⟩, ⟨z.oT, cl (ivs z.T ++ z.tT) 3⟩]) ((cH gC ++ sH y.h ++ [⟨some b3, cl (ivs y.LR ++ []) 3⟩, ⟨some b4, cl (y.LP.flatMap encP ++ []) 9⟩, ⟨some b5, cl (y.LD.flatMap encD ++ []) 4⟩, ⟨y.oT, cl (ivs y.T ++ y.tT) 3⟩])) (pqD) ?_ ?_
        · refine WC_seq ?_
          refine WC_region ?_
          refine WL_val rfl rfl rfl (R_fieldAddr rfl fa54_0 rfl) ?_
          refine WL_val rfl rfl rfl (R_load rfl sc3 rfl (mmD) rfl) ?_
          refine WL_nil ?_
          refine WQ_code ?_
          refine WC_block ?_
          refine WC_seq ?_
          refine WC_region ?_
          refine WL_val rfl rfl rfl (R_eql rfl rfl rfl) ?_
          refine WL_val rfl rfl rfl (R_assign rfl rfl) ?_
          refine WL_nil ?_
          refine WQ_code ?_
          refine WC_dT rfl (by decide) ?_
          refine WC_seq ?_
          refine WC_seq ?_
          refine WC_region ?_
          refine WL_val rfl rfl rfl (R_move rfl rfl) ?_
          refine WL_val rfl rfl rfl (R_move rfl rfl) ?_
          refine WL_val rfl rfl rfl (R_len rfl Try.underlying50 rfl) ?_
          refine WL_val rfl rfl rfl (R_eql rfl rfl rfl) ?_
          refine WL_nil ?_
          refine WQ_code ?_
          refine WC_dT rfl (by omega) ?_
          refine WC_exit ?_
          refine WQ_cutF (⟨y.i, gC, y.h, y.v.close.1, y.u, y.made, y.now, y.LR, y.LP, y.LD, y.T, y.oT, y.cT, y.tT⟩) (⟨hgC, hh, hcls.2.2, hlR, hlP, hlD, hoT, (by dsimp only; omega), hmk, (fun e => absurd e (by omega)), (fun _ => hcls.2.1)⟩) leZ (psZ) (pqD)
        · rintro z ⟨zg, zh, zi, zR, zP, zD, zT, ztl, zmk, zc, ze⟩
          refine WC_seq ?_
          refine WC_seq ?_
          refine WC_region ?_
          refine WL_val rfl rfl rfl (R_assign rfl rfl) ?_
          refine WL_nil ?_
          refine WQ_code ?_
          refine WC_block ?_
          refine WC_loopF (G := HoD) [2, 24, 25, 26, 205, 206, 207, 208, 209, 210, 211, 212, 213, 214, 215, 216, 217, 218, 219, 220, 221, 222, 223, 224, 225, 226, 227, 228, 229, 230, 231, 232, 233, 234, 235, 236, 237, 238, 239, 240, 241, 242, 243, 244, 245, 246, 247, 248, 249, 250, 251, 252, 253, 254, 255, 256, 257, 258, 259, 260, 261, 262, 263, 264, 265, 266, 267, 268, 269, 270, 271, 272, 273, 274, 275, 276, 277, 278, 279, 280, 281, 282, 283, 284] (fun u9 => u9.k + u9.v.res.length ≤ 41 ∧ CGd u9.g b1 u9.v ∧ HI (y.i + 1) u9.v z.u z.made z.now (fR u9.LR) (fD z.LD) (fP z.LP) z.T ∧ u9.LR.length = 41 ∧ u9.v.closed = z.v.closed ∧ u9.v.calls = z.v.calls) (fun u9 => [(24, .int .i64 (u9.k : Int))]) (fun u9 => cH u9.g ++ [⟨some b3, cl (ivs u9.LR ++ []) 3⟩]) (fun u9 => 41 - u9.k) (⟨0, z.g, z.v, z.LR⟩) (⟨by have := zi.resl; dsimp only; omega, zg, zi, zR, rfl, rfl⟩) leZ (pqD) ?_
          rintro u9 ⟨ukr, ug, ui, uR, uc, ud⟩
          refine WC_seq ?_
          refine WC_seq ?_
          refine WC_region ?_
          refine WL_val rfl rfl rfl (R_move rfl rfl) ?_
          refine WL_val rfl rfl rfl (R_lss rfl rfl rfl) ?_
          refine WL_nil ?_
          refine WQ_code ?_
          refine WC_dec rfl (fun c3 => ?_) (fun c3 => ?_)
          · refine WC_skip ?_
            refine WQ_code ?_
            refine WC_seq ?_
            refine WC_block ?_
            refine WC_seq ?_
            refine WC_region ?_
            refine WL_val rfl rfl rfl (R_move rfl rfl) ?_
            rcases hre : u9.v.res with _ | ⟨rr, rest⟩
            · refine WL_do rfl rfl rfl (D_call (k_next0 ug (ui.pcb (by omega)) hre) rfl rfl rfl rfl (pqD)) ?_
              rintro _ _ ⟨_, ⟨g2, ug2, rfl, rfl⟩, rfl⟩
              refine WL_val rfl rfl rfl (R_move rfl rfl) ?_
              refine WL_val rfl rfl rfl (R_extract rfl rfl rfl) ?_
              refine WL_val rfl rfl rfl (R_extract rfl rfl rfl) ?_
              refine WL_do rfl rfl rfl (D_alloc rfl zv66) ?_
              rintro _ _ ⟨b7, rfl, rfl⟩
              refine WL_do0 rfl rfl (D_store (vs := [_, _, _]) rfl Try.sizeOf66 rfl rfl rfl rfl rfl (plD) (by exact Nat.le_of_ble_eq_true rfl)) ?_
              rintro _ _ rfl
              refine WL_val rfl rfl rfl (R_assign rfl rfl) ?_
              refine WL_nil ?_
              refine WQ_code ?_
              refine WC_seq ?_
              refine WC_seq ?_
              refine WC_region ?_
              refine WL_val rfl rfl rfl (R_move rfl rfl) ?_
              refine WL_val rfl rfl rfl (R_not rfl rfl) ?_
              refine WL_nil ?_
              refine WQ_code ?_
              refine WC_T rfl ?_
              refine WC_exit ?_
              refine WQ_code ?_
              refine WC_seq ?_
              refine WC_region ?_
              refine WL_val rfl rfl rfl (R_move rfl rfl) ?_
              refine WL_val rfl rfl rfl (R_move rfl rfl) ?_
              refine WL_val rfl rfl rfl (R_len rfl Try.underlying50 rfl) ?_
              refine WL_val rfl rfl rfl (R_lss rfl rfl rfl) ?_
              refine WL_set (s := 288) (v := .bool false) rfl (by exact congrArg Value.bool (decide_eq_false (by omega))) ?_
              refine WL_val rfl rfl rfl (R_move rfl rfl) ?_
              refine WL_skip rfl rfl rfl ?_
              refine WL_skip rfl rfl rfl ?_
              refine WL_skip rfl rfl rfl ?_
              refine WL_val rfl rfl rfl (R_pickF rfl rfl rfl) ?_
              refine WL_val rfl rfl rfl (R_move rfl rfl) ?_
              refine WL_skip rfl rfl rfl ?_
              refine WL_skip rfl rfl rfl ?_
              refine WL_skip rfl rfl rfl ?_
              refine WL_skip rfl rfl rfl ?_
              refine WL_skip rfl rfl rfl ?_
              refine WL_val rfl rfl rfl (R_pickF rfl rfl rfl) ?_
              refine WL_nil ?_
              refine WQ_code ?_
              refine WC_F rfl ?_
              refine WC_skip ?_
              refine WQ_code ?_
              refine WC_region ?_
              refine WL_val rfl rfl rfl (R_move rfl rfl) ?_
              refine WL_val rfl rfl rfl (R_add rfl rfl rfl (by omega)) ?_
              refine WL_val rfl rfl rfl (R_assign rfl rfl) ?_
              refine WL_nil ?_
              refine WQ_nextL (⟨y.i + 1, g2, z.h, u9.v, z.u, z.made, z.now, u9.LR, z.LP, z.LD, z.T, z.oT, z.cT, z.tT⟩) (⟨by dsimp only; omega, ug2, zh, ui, uR, zP, zD, zT, ztl, zmk, hre, (fun e => uc.trans (zc (by dsimp only at e; omega))), (fun e => ud.trans (ze (by dsimp only at e; omega)))⟩) (by dsimp only; omega) leZ (pqD)
            · obtain ⟨p1, p2, p3, hok, p5⟩ := ui.pop hre
              obtain ⟨ri, hri⟩ : ∃ ri : Nat, rr.id = ri := ⟨rr.id.toNat, by omega⟩
              unfold OkR at hok
              rw [hri, Int.toNat_natCast] at p3 p5 hok
              have hrl : ri ≤ z.made := by omega
              rw [hre, List.length_cons] at ukr
              obtain ⟨sp, hsp1, hsp⟩ := fP_at (L := z.LP) (i := ri) (by omega)
              refine WL_do rfl rfl rfl (D_call (k_next1 ug (ui.pcb (by omega)) hre) rfl rfl rfl rfl (pqD)) ?_
              rintro _ _ ⟨_, ⟨g2, o9, c9, tl9, ug2, own9, rfl, rfl⟩, rfl⟩
              refine WL_val rfl rfl rfl (R_move rfl rfl) ?_
              refine WL_val rfl rfl rfl (R_extract rfl rfl rfl) ?_
              refine WL_val rfl rfl rfl (R_extract rfl rfl rfl) ?_
              refine WL_do rfl rfl rfl (D_alloc rfl zv66) ?_
              rintro _ _ ⟨b8, rfl, rfl⟩
              refine WL_do0 rfl rfl (D_store (vs := [_, _, _]) rfl Try.sizeOf66 rfl rfl rfl rfl rfl (plD) (by exact Nat.le_of_ble_eq_true rfl)) ?_
              rintro _ _ rfl
              refine WL_val rfl rfl rfl (R_assign rfl rfl) ?_
              refine WL_nil ?_
              refine WQ_code ?_
              refine WC_seq ?_
              refine WC_seq ?_
              refine WC_region ?_
              refine WL_val rfl rfl rfl (R_move rfl rfl) ?_
              refine WL_val rfl rfl rfl (R_not rfl rfl) ?_
              refine WL_nil ?_
              refine WQ_code ?_
              refine WC_F rfl ?_
              refine WC_skip ?_
              refine WQ_code ?_
              refine WC_seq ?_
              refine WC_seq ?_
              refine WC_region ?_
              refine WL_val rfl rfl rfl (R_fieldAddr rfl fa66_0 rfl) ?_
              refine WL_val rfl rfl rfl (R_load rfl sc3 rfl (mmD) rfl) ?_
              refine WL_set (s := 217) (v := .int .i64 (ri : Int)) rfl (by rw [hri]) ?_
              refine WL_val rfl rfl rfl (R_lss rfl rfl rfl) ?_
              refine WL_set (s := 218) (v := .bool false) rfl (by exact congrArg Value.bool (decide_eq_false (by omega))) ?_
              refine WL_val rfl rfl rfl (R_move rfl rfl) ?_
              refine WL_val rfl rfl rfl (R_fieldAddr rfl fa66_0 rfl) ?_
              refine WL_val rfl rfl rfl (R_load rfl sc3 rfl (mmD) rfl) ?_
              refine WL_set (s := 221) (v := .int .i64 (ri : Int)) rfl (by rw [hri]) ?_
              refine WL_val rfl rfl rfl (R_move rfl rfl) ?_
              refine WL_val rfl rfl rfl (R_gtr rfl rfl rfl) ?_
              refine WL_set (s := 223) (v := .bool false) rfl (by exact congrArg Value.bool (decide_eq_false (by omega))) ?_
              refine WL_val rfl rfl rfl (R_pickF rfl rfl rfl) ?_
              refine WL_val rfl rfl rfl (R_move rfl rfl) ?_
              refine WL_val rfl rfl rfl (R_move rfl rfl) ?_
              refine WL_val rfl rfl rfl (R_fieldAddr rfl fa66_0 rfl) ?_
              refine WL_val rfl rfl rfl (R_load rfl sc3 rfl (mmD) rfl) ?_
              refine WL_set (s := 228) (v := .int .i64 (ri : Int)) rfl (by rw [hri]) ?_
              refine WL_val rfl rfl rfl (R_indexAddrN rfl Try.underlying36 Try.sizeOf3 rfl rfl (by omega)) ?_
              refine WL_val rfl rfl rfl (R_load (v := .int .i64 (fR u9.LR ri)) rfl sc3 rfl (mmD) (fm_get0 encI1 (fR_at (by omega)) (j := 0) (by omega))) ?_
              refine WL_val rfl rfl rfl (R_neq rfl rfl rfl) ?_
              refine WL_set (s := 231) (v := .bool false) rfl (by exact congrArg Value.bool (decide_eq_false (fun e => e p3))) ?_
              refine WL_val rfl rfl rfl (R_pickF rfl rfl rfl) ?_
              refine WL_nil ?_
              refine WQ_code ?_
              refine WC_F rfl ?_
              refine WC_skip ?_
              refine WQ_code ?_
              refine WC_seq ?_
              refine WC_region ?_
              refine WL_val rfl rfl rfl (R_move rfl rfl) ?_
              refine WL_val rfl rfl rfl (R_fieldAddr rfl fa66_0 rfl) ?_
              refine WL_val rfl rfl rfl (R_load rfl sc3 rfl (mmD) rfl) ?_
              refine WL_set (s := 235) (v := .int .i64 (ri : Int)) rfl (by rw [hri]) ?_
              refine WL_val rfl rfl rfl (R_indexAddrN rfl Try.underlying36 Try.sizeOf3 rfl rfl (by omega)) ?_
              refine WL_do0 rfl rfl (D_store (vs := [_]) rfl Try.sizeOf3 rfl rfl rfl rfl rfl (plD) (by exact fm_room0 encI1 (show ri < u9.LR.length by omega) (j := 0) (by omega))) ?_
              rintro _ _ rfl
              have hput3 := fm_put0 encI1 (1 : Int) (fR_at (L := u9.LR) (i := ri) (by omega)) (j := 0) (vs := [.int .i64 1]) (by simp) rfl (tl := [])
              rw [Nat.add_zero] at hput3
              rw [hput3]
              refine WL_nil ?_
              refine WQ_code ?_
              refine WC_seq ?_
              refine WC_draw _ [(0, true), (1, true), (2, true), (3, true), (4, true), (5, true), (6, true), (7, true), (8, true), (9, true), (10, true), (11, true), (12, true), (13, true), (14, true), (15, true), (16, true), (17, true), (18, true), (19, true), (20, true), (21, true), (22, true), (23, true), (24, true), (25, true), (26, true), (27, true), (28, true), (29, true), (30, true), (31, true), (32, true), (33, true), (34, true), (35, true), (36, true), (37, true), (38, true), (39, true), (40, true), (41, true), (42, true), (43, true), (44, true), (45, true), (46, true), (47, true)] followsMixed rfl rfl (by kernel_rfl) .all ?_
              rcases hok with ⟨hc0, hd0, hp0⟩ | ⟨hb0, hcc⟩
              · refine WM_val rfl rfl rfl rfl (R_fieldAddr rfl fa66_1 rfl) ?_
                refine WM_val rfl rfl rfl rfl (R_load rfl sc24 rfl (mmD) rfl) ?_
                refine WM_val rfl rfl rfl rfl (R_eql rfl rfl rfl) ?_
                refine WM_set (s := 239) (v := .bool true) rfl (by exact congrArg Value.bool (decide_eq_true (hc0))) ?_
                refine WM_val rfl rfl rfl rfl (R_move rfl rfl) ?_
                refine WM_val rfl rfl rfl rfl (R_move rfl rfl) ?_
                refine WM_val rfl rfl rfl rfl (R_fieldAddr rfl fa66_0 rfl) ?_
                refine WM_val rfl rfl rfl rfl (R_load rfl sc3 rfl (mmD) rfl) ?_
                refine WM_set (s := 243) (v := .int .i64 (ri : Int)) rfl (by rw [hri]) ?_
                refine WM_val rfl rfl rfl rfl (R_indexAddrN rfl Try.underlying52 Try.sizeOf4 rfl rfl (by omega)) ?_
                refine WM_val rfl rfl rfl rfl (R_load (v := .bool (fD z.LD ri)) rfl sc4 rfl (mmD) (fm_get0 encD1 (fD_at (by omega)) (j := 0) (by omega))) ?_
                refine WM_set (s := 245) (v := .bool true) rfl (by rw [hd0]) ?_
                refine WM_val rfl rfl rfl rfl (R_not rfl rfl) ?_
                refine WM_val rfl rfl rfl rfl (R_move rfl rfl) ?_
                refine WM_val rfl rfl rfl rfl (R_fieldAddr rfl fa66_2 rfl) ?_
                refine WM_val rfl rfl rfl rfl (R_load rfl sc23 rfl (mmD) rfl) ?_
                refine WM_val rfl rfl rfl rfl (R_byteStr rfl Try.underlying23 Try.underlying5 Try.underlying9 rfl (RdB.own own9) mmD) ?_
                refine WM_val rfl rfl rfl rfl (R_move rfl rfl) ?_
                refine WM_val rfl rfl rfl rfl (R_fieldAddr rfl fa66_0 rfl) ?_
                refine WM_val rfl rfl rfl rfl (R_load rfl sc3 rfl (mmD) rfl) ?_
                refine WM_set (s := 253) (v := .int .i64 (ri : Int)) rfl (by rw [hri]) ?_
                refine WM_val rfl rfl rfl rfl (R_indexAddrN rfl Try.underlying51 Try.sizeOf9 rfl rfl (by omega)) ?_
                refine WM_val rfl rfl rfl rfl (R_load (v := .string sp) rfl sc9 rfl (mmD) (fm_get0 encP1 hsp1 (j := 0) (by omega))) ?_
                refine WM_val rfl rfl rfl rfl (R_strNe rfl Try.underlying9 rfl rfl) ?_
                refine WM_set (s := 256) (v := .bool false) rfl (by exact congrArg Value.bool (decide_eq_false (fun e => e (by rw [byt_mk, ← hp0, hsp])))) ?_
                refine WM_val rfl rfl rfl rfl (R_pickF rfl rfl rfl) ?_
                refine WM_val rfl rfl rfl rfl (R_pickT rfl rfl rfl) ?_
                refine WM_val rfl rfl rfl rfl (R_move rfl rfl) ?_
                refine WM_val rfl rfl rfl rfl (R_fieldAddr rfl fa66_1 rfl) ?_
                refine WM_val rfl rfl rfl rfl (R_load rfl sc24 rfl (mmD) rfl) ?_
                refine WM_val rfl rfl rfl rfl (R_neq rfl rfl rfl) ?_
                refine WM_set (s := 262) (v := .bool false) rfl (by exact congrArg Value.bool (decide_eq_false (fun e => e hc0))) ?_
                refine WM_val rfl rfl rfl rfl (R_move rfl rfl) ?_
                refine WM_skip rfl rfl rfl rfl ?_
                refine WM_skip rfl rfl rfl rfl ?_
                refine WM_skip rfl rfl rfl rfl ?_
                refine WM_skip rfl rfl rfl rfl ?_
                refine WM_skip rfl rfl rfl rfl ?_
                refine WM_skip rfl rfl rfl rfl ?_
                refine WM_skip rfl rfl rfl rfl ?_
                refine WM_skip rfl rfl rfl rfl ?_
                refine WM_skip rfl rfl rfl rfl ?_
                refine WM_skip rfl rfl rfl rfl ?_
                refine WM_skip rfl rfl rfl rfl ?_
                refine WM_skip rfl rfl rfl rfl ?_
                refine WM_skip rfl rfl rfl rfl ?_
                refine WM_skip rfl rfl rfl rfl ?_
                refine WM_skip rfl rfl rfl rfl ?_
                refine WM_skip rfl rfl rfl rfl ?_
                refine WM_skip rfl rfl rfl rfl ?_
                refine WM_skip rfl rfl rfl rfl ?_
                refine WM_skip rfl rfl rfl rfl ?_
                refine WM_val rfl rfl rfl rfl (R_pickF rfl rfl rfl) ?_
                refine WM_val rfl rfl rfl rfl (R_pickF rfl rfl rfl) ?_
                refine WM_nil ?_
                refine WQ_code ?_
                refine WC_F rfl ?_
                refine WC_skip ?_
                refine WQ_code ?_
                refine WC_region ?_
                refine WL_val rfl rfl rfl (R_move rfl rfl) ?_
                refine WL_val rfl rfl rfl (R_add rfl rfl rfl (by omega)) ?_
                refine WL_val rfl rfl rfl (R_assign rfl rfl) ?_
                refine WL_nil ?_
                refine WQ_nextF (⟨u9.k + 1, g2, { u9.v with res := rest }, u9.LR.set ri 1⟩) (⟨by dsimp only; omega, ug2, (by dsimp only; rw [fR_set (by omega)]; exact p5), (by dsimp only; rw [List.length_set]; exact uR), uc, ud⟩) (by dsimp only; omega) leZ (psZ) rfl (pqD)
              · refine WM_val rfl rfl rfl rfl (R_fieldAddr rfl fa66_1 rfl) ?_
                rcases hcc with hcc | hcc | hcc
                · refine WM_val rfl rfl rfl rfl (R_load rfl sc24 rfl (mmD) rfl) ?_
                  refine WM_val rfl rfl rfl rfl (R_eql rfl rfl rfl) ?_
                  refine WM_set (s := 239) (v := .bool false) rfl (by exact congrArg Value.bool (decide_eq_false (by omega))) ?_
                  refine WM_val rfl rfl rfl rfl (R_move rfl rfl) ?_
                  refine WM_skip rfl rfl rfl rfl ?_
                  refine WM_skip rfl rfl rfl rfl ?_
                  refine WM_skip rfl rfl rfl rfl ?_
                  refine WM_skip rfl rfl rfl rfl ?_
                  refine WM_skip rfl rfl rfl rfl ?_
                  refine WM_skip rfl rfl rfl rfl ?_
                  refine WM_skip rfl rfl rfl rfl ?_
                  refine WM_skip rfl rfl rfl rfl ?_
                  refine WM_skip rfl rfl rfl rfl ?_
                  refine WM_skip rfl rfl rfl rfl ?_
                  refine WM_skip rfl rfl rfl rfl ?_
                  refine WM_skip rfl rfl rfl rfl ?_
                  refine WM_skip rfl rfl rfl rfl ?_
                  refine WM_skip rfl rfl rfl rfl ?_
                  refine WM_skip rfl rfl rfl rfl ?_
                  refine WM_skip rfl rfl rfl rfl ?_
                  refine WM_skip rfl rfl rfl rfl ?_
                  refine WM_val rfl rfl rfl rfl (R_pickF rfl rfl rfl) ?_
                  refine WM_val rfl rfl rfl rfl (R_move rfl rfl) ?_
                  refine WM_val rfl rfl rfl rfl (R_fieldAddr rfl fa66_1 rfl) ?_
                  refine WM_val rfl rfl rfl rfl (R_load rfl sc24 rfl (mmD) rfl) ?_
                  refine WM_val rfl rfl rfl rfl (R_neq rfl rfl rfl) ?_
                  refine WM_set (s := 262) (v := .bool true) rfl (by exact congrArg Value.bool (decide_eq_true (by omega))) ?_
                  refine WM_val rfl rfl rfl rfl (R_move rfl rfl) ?_
                  refine WM_val rfl rfl rfl rfl (R_fieldAddr rfl fa66_2 rfl) ?_
                  refine WM_val rfl rfl rfl rfl (R_load rfl sc23 rfl (mmD) rfl) ?_
                  refine WM_val rfl rfl rfl rfl (R_len rfl Try.underlying23 rfl) ?_
                  refine WM_val rfl rfl rfl rfl (R_neq rfl rfl rfl) ?_
                  refine WM_set (s := 267) (v := .bool false) rfl (by exact congrArg Value.bool (decide_eq_false (fun e => e (by rw [hb0]; rfl)))) ?_
                  refine WM_val rfl rfl rfl rfl (R_move rfl rfl) ?_
                  refine WM_val rfl rfl rfl rfl (R_fieldAddr rfl fa66_1 rfl) ?_
                  refine WM_val rfl rfl rfl rfl (R_load rfl sc24 rfl (mmD) rfl) ?_
                  refine WM_val rfl rfl rfl rfl (R_neq rfl rfl rfl) ?_
                  refine WM_set (s := 271) (v := .bool false) rfl (by exact congrArg Value.bool (decide_eq_false (fun e => e hcc))) ?_
                  refine WM_val rfl rfl rfl rfl (R_move rfl rfl) ?_
                  refine WM_skip rfl rfl rfl rfl ?_
                  refine WM_skip rfl rfl rfl rfl ?_
                  refine WM_skip rfl rfl rfl rfl ?_
                  refine WM_val rfl rfl rfl rfl (R_pickF rfl rfl rfl) ?_
                  refine WM_val rfl rfl rfl rfl (R_move rfl rfl) ?_
                  refine WM_skip rfl rfl rfl rfl ?_
                  refine WM_skip rfl rfl rfl rfl ?_
                  refine WM_skip rfl rfl rfl rfl ?_
                  refine WM_val rfl rfl rfl rfl (R_pickF rfl rfl rfl) ?_
                  refine WM_val rfl rfl rfl rfl (R_pickF rfl rfl rfl) ?_
                  refine WM_val rfl rfl rfl rfl (R_pickT rfl rfl rfl) ?_
                  refine WM_val rfl rfl rfl rfl (R_pickF rfl rfl rfl) ?_
                  refine WM_nil ?_
                  refine WQ_code ?_
                  refine WC_F rfl ?_
                  refine WC_skip ?_
                  refine WQ_code ?_
                  refine WC_region ?_
                  refine WL_val rfl rfl rfl (R_move rfl rfl) ?_
                  refine WL_val rfl rfl rfl (R_add rfl rfl rfl (by omega)) ?_
                  refine WL_val rfl rfl rfl (R_assign rfl rfl) ?_
                  refine WL_nil ?_
                  refine WQ_nextF (⟨u9.k + 1, g2, { u9.v with res := rest }, u9.LR.set ri 1⟩) (⟨by dsimp only; omega, ug2, (by dsimp only; rw [fR_set (by omega)]; exact p5), (by dsimp only; rw [List.length_set]; exact uR), uc, ud⟩) (by dsimp only; omega) leZ (psZ) rfl (pqD)
                · refine WM_val rfl rfl rfl rfl (R_load rfl sc24 rfl (mmD) rfl) ?_
                  refine WM_val rfl rfl rfl rfl (R_eql rfl rfl rfl) ?_
                  refine WM_set (s := 239) (v := .bool false) rfl (by exact congrArg Value.bool (decide_eq_false (by omega))) ?_
                  refine WM_val rfl rfl rfl rfl (R_move rfl rfl) ?_
                  refine WM_skip rfl rfl rfl rfl ?_
                  refine WM_skip rfl rfl rfl rfl ?_
                  refine WM_skip rfl rfl rfl rfl ?_
                  refine WM_skip rfl rfl rfl rfl ?_
                  refine WM_skip rfl rfl rfl rfl ?_
                  refine WM_skip rfl rfl rfl rfl ?_
                  refine WM_skip rfl rfl rfl rfl ?_
                  refine WM_skip rfl rfl rfl rfl ?_
                  refine WM_skip rfl rfl rfl rfl ?_
                  refine WM_skip rfl rfl rfl rfl ?_
                  refine WM_skip rfl rfl rfl rfl ?_
                  refine WM_skip rfl rfl rfl rfl ?_
                  refine WM_skip rfl rfl rfl rfl ?_
                  refine WM_skip rfl rfl rfl rfl ?_
                  refine WM_skip rfl rfl rfl rfl ?_
                  refine WM_skip rfl rfl rfl rfl ?_
                  refine WM_skip rfl rfl rfl rfl ?_
                  refine WM_val rfl rfl rfl rfl (R_pickF rfl rfl rfl) ?_
                  refine WM_val rfl rfl rfl rfl (R_move rfl rfl) ?_
                  refine WM_val rfl rfl rfl rfl (R_fieldAddr rfl fa66_1 rfl) ?_
                  refine WM_val rfl rfl rfl rfl (R_load rfl sc24 rfl (mmD) rfl) ?_
                  refine WM_val rfl rfl rfl rfl (R_neq rfl rfl rfl) ?_
                  refine WM_set (s := 262) (v := .bool true) rfl (by exact congrArg Value.bool (decide_eq_true (by omega))) ?_
                  refine WM_val rfl rfl rfl rfl (R_move rfl rfl) ?_
                  refine WM_val rfl rfl rfl rfl (R_fieldAddr rfl fa66_2 rfl) ?_
                  refine WM_val rfl rfl rfl rfl (R_load rfl sc23 rfl (mmD) rfl) ?_
                  refine WM_val rfl rfl rfl rfl (R_len rfl Try.underlying23 rfl) ?_
                  refine WM_val rfl rfl rfl rfl (R_neq rfl rfl rfl) ?_
                  refine WM_set (s := 267) (v := .bool false) rfl (by exact congrArg Value.bool (decide_eq_false (fun e => e (by rw [hb0]; rfl)))) ?_
                  refine WM_val rfl rfl rfl rfl (R_move rfl rfl) ?_
                  refine WM_val rfl rfl rfl rfl (R_fieldAddr rfl fa66_1 rfl) ?_
                  refine WM_val rfl rfl rfl rfl (R_load rfl sc24 rfl (mmD) rfl) ?_
                  refine WM_val rfl rfl rfl rfl (R_neq rfl rfl rfl) ?_
                  refine WM_set (s := 271) (v := .bool true) rfl (by exact congrArg Value.bool (decide_eq_true (by omega))) ?_
                  refine WM_val rfl rfl rfl rfl (R_move rfl rfl) ?_
                  refine WM_val rfl rfl rfl rfl (R_fieldAddr rfl fa66_1 rfl) ?_
                  refine WM_val rfl rfl rfl rfl (R_load rfl sc24 rfl (mmD) rfl) ?_
                  refine WM_val rfl rfl rfl rfl (R_neq rfl rfl rfl) ?_
                  refine WM_set (s := 275) (v := .bool false) rfl (by exact congrArg Value.bool (decide_eq_false (fun e => e hcc))) ?_
                  refine WM_val rfl rfl rfl rfl (R_pickT rfl rfl rfl) ?_
                  refine WM_val rfl rfl rfl rfl (R_move rfl rfl) ?_
                  refine WM_skip rfl rfl rfl rfl ?_
                  refine WM_skip rfl rfl rfl rfl ?_
                  refine WM_skip rfl rfl rfl rfl ?_
                  refine WM_val rfl rfl rfl rfl (R_pickF rfl rfl rfl) ?_
                  refine WM_val rfl rfl rfl rfl (R_pickF rfl rfl rfl) ?_
                  refine WM_val rfl rfl rfl rfl (R_pickT rfl rfl rfl) ?_
                  refine WM_val rfl rfl rfl rfl (R_pickF rfl rfl rfl) ?_
                  refine WM_nil ?_
                  refine WQ_code ?_
                  refine WC_F rfl ?_
                  refine WC_skip ?_
                  refine WQ_code ?_
                  refine WC_region ?_
                  refine WL_val rfl rfl rfl (R_move rfl rfl) ?_
                  refine WL_val rfl rfl rfl (R_add rfl rfl rfl (by omega)) ?_
                  refine WL_val rfl rfl rfl (R_assign rfl rfl) ?_
                  refine WL_nil ?_
                  refine WQ_nextF (⟨u9.k + 1, g2, { u9.v with res := rest }, u9.LR.set ri 1⟩) (⟨by dsimp only; omega, ug2, (by dsimp only; rw [fR_set (by omega)]; exact p5), (by dsimp only; rw [List.length_set]; exact uR), uc, ud⟩) (by dsimp only; omega) leZ (psZ) rfl (pqD)
                · refine WM_val rfl rfl rfl rfl (R_load rfl sc24 rfl (mmD) rfl) ?_
                  refine WM_val rfl rfl rfl rfl (R_eql rfl rfl rfl) ?_
                  refine WM_set (s := 239) (v := .bool false) rfl (by exact congrArg Value.bool (decide_eq_false (by omega))) ?_
                  refine WM_val rfl rfl rfl rfl (R_move rfl rfl) ?_
                  refine WM_skip rfl rfl rfl rfl ?_
                  refine WM_skip rfl rfl rfl rfl ?_
                  refine WM_skip rfl rfl rfl rfl ?_
                  refine WM_skip rfl rfl rfl rfl ?_
                  refine WM_skip rfl rfl rfl rfl ?_
                  refine WM_skip rfl rfl rfl rfl ?_
                  refine WM_skip rfl rfl rfl rfl ?_
                  refine WM_skip rfl rfl rfl rfl ?_
                  refine WM_skip rfl rfl rfl rfl ?_
                  refine WM_skip rfl rfl rfl rfl ?_
                  refine WM_skip rfl rfl rfl rfl ?_
                  refine WM_skip rfl rfl rfl rfl ?_
                  refine WM_skip rfl rfl rfl rfl ?_
                  refine WM_skip rfl rfl rfl rfl ?_
                  refine WM_skip rfl rfl rfl rfl ?_
                  refine WM_skip rfl rfl rfl rfl ?_
                  refine WM_skip rfl rfl rfl rfl ?_
                  refine WM_val rfl rfl rfl rfl (R_pickF rfl rfl rfl) ?_
                  refine WM_val rfl rfl rfl rfl (R_move rfl rfl) ?_
                  refine WM_val rfl rfl rfl rfl (R_fieldAddr rfl fa66_1 rfl) ?_
                  refine WM_val rfl rfl rfl rfl (R_load rfl sc24 rfl (mmD) rfl) ?_
                  refine WM_val rfl rfl rfl rfl (R_neq rfl rfl rfl) ?_
                  refine WM_set (s := 262) (v := .bool true) rfl (by exact congrArg Value.bool (decide_eq_true (by omega))) ?_
                  refine WM_val rfl rfl rfl rfl (R_move rfl rfl) ?_
                  refine WM_val rfl rfl rfl rfl (R_fieldAddr rfl fa66_2 rfl) ?_
                  refine WM_val rfl rfl rfl rfl (R_load rfl sc23 rfl (mmD) rfl) ?_
                  refine WM_val rfl rfl rfl rfl (R_len rfl Try.underlying23 rfl) ?_
                  refine WM_val rfl rfl rfl rfl (R_neq rfl rfl rfl) ?_
                  refine WM_set (s := 267) (v := .bool false) rfl (by exact congrArg Value.bool (decide_eq_false (fun e => e (by rw [hb0]; rfl)))) ?_
                  refine WM_val rfl rfl rfl rfl (R_move rfl rfl) ?_
                  refine WM_val rfl rfl rfl rfl (R_fieldAddr rfl fa66_1 rfl) ?_
                  refine WM_val rfl rfl rfl rfl (R_load rfl sc24 rfl (mmD) rfl) ?_
                  refine WM_val rfl rfl rfl rfl (R_neq rfl rfl rfl) ?_
                  refine WM_set (s := 271) (v := .bool true) rfl (by exact congrArg Value.bool (decide_eq_true (by omega))) ?_
                  refine WM_val rfl rfl rfl rfl (R_move rfl rfl) ?_
                  refine WM_val rfl rfl rfl rfl (R_fieldAddr rfl fa66_1 rfl) ?_
                  refine WM_val rfl rfl rfl rfl (R_load rfl sc24 rfl (mmD) rfl) ?_
                  refine WM_val rfl rfl rfl rfl (R_neq rfl rfl rfl) ?_
                  refine WM_set (s := 275) (v := .bool true) rfl (by exact congrArg Value.bool (decide_eq_true (by omega))) ?_
                  refine WM_val rfl rfl rfl rfl (R_pickT rfl rfl rfl) ?_
                  refine WM_val rfl rfl rfl rfl (R_move rfl rfl) ?_
                  refine WM_val rfl rfl rfl rfl (R_fieldAddr rfl fa66_1 rfl) ?_
                  refine WM_val rfl rfl rfl rfl (R_load rfl sc24 rfl (mmD) rfl) ?_
                  refine WM_val rfl rfl rfl rfl (R_neq rfl rfl rfl) ?_
                  refine WM_set (s := 280) (v := .bool false) rfl (by exact congrArg Value.bool (decide_eq_false (fun e => e hcc))) ?_
                  refine WM_val rfl rfl rfl rfl (R_pickT rfl rfl rfl) ?_
                  refine WM_val rfl rfl rfl rfl (R_pickF rfl rfl rfl) ?_
                  refine WM_val rfl rfl rfl rfl (R_pickT rfl rfl rfl) ?_
                  refine WM_val rfl rfl rfl rfl (R_pickF rfl rfl rfl) ?_
                  refine WM_nil ?_
                  refine WQ_code ?_
                  refine WC_F rfl ?_
                  refine WC_skip ?_
                  refine WQ_code ?_
                  refine WC_region ?_
                  refine WL_val rfl rfl rfl (R_move rfl rfl) ?_
                  refine WL_val rfl rfl rfl (R_add rfl rfl rfl (by omega)) ?_
                  refine WL_val rfl rfl rfl (R_assign rfl rfl) ?_
                  refine WL_nil ?_
                  refine WQ_nextF (⟨u9.k + 1, g2, { u9.v with res := rest }, u9.LR.set ri 1⟩) (⟨by dsimp only; omega, ug2, (by dsimp only; rw [fR_set (by omega)]; exact p5), (by dsimp only; rw [List.length_set]; exact uR), uc, ud⟩) (by dsimp only; omega) leZ (psZ) rfl (pqD)
          · have hre : u9.v.res = [] := List.eq_nil_of_length_eq_zero (by omega)
            refine WC_exit ?_
            refine WQ_code ?_
            refine WC_seq ?_
            refine WC_region ?_
            refine WL_val rfl rfl rfl (R_move rfl rfl) ?_
            refine WL_val rfl rfl rfl (R_move rfl rfl) ?_
            refine WL_val rfl rfl rfl (R_len rfl Try.underlying50 rfl) ?_
            refine WL_val rfl rfl rfl (R_lss rfl rfl rfl) ?_
            refine WL_set (s := 288) (v := .bool false) rfl (by exact congrArg Value.bool (decide_eq_false (by omega))) ?_
            refine WL_val rfl rfl rfl (R_move rfl rfl) ?_
            refine WL_skip rfl rfl rfl ?_
            refine WL_skip rfl rfl rfl ?_
            refine WL_skip rfl rfl rfl ?_
            refine WL_val rfl rfl rfl (R_pickF rfl rfl rfl) ?_
            refine WL_val rfl rfl rfl (R_move rfl rfl) ?_
            refine WL_skip rfl rfl rfl ?_
            refine WL_skip rfl rfl rfl ?_
            refine WL_skip rfl rfl rfl ?_
            refine WL_skip rfl rfl rfl ?_
            refine WL_skip rfl rfl rfl ?_
            refine WL_val rfl rfl rfl (R_pickF rfl rfl rfl) ?_
            refine WL_nil ?_
            refine WQ_code ?_
            refine WC_F rfl ?_
            refine WC_skip ?_
            refine WQ_code ?_
            refine WC_region ?_
            refine WL_val rfl rfl rfl (R_move rfl rfl) ?_
            refine WL_val rfl rfl rfl (R_add rfl rfl rfl (by omega)) ?_
            refine WL_val rfl rfl rfl (R_assign rfl rfl) ?_
            refine WL_nil ?_
            refine WQ_nextL (⟨y.i + 1, u9.g, z.h, u9.v, z.u, z.made, z.now, u9.LR, z.LP, z.LD, z.T, z.oT, z.cT, z.tT⟩) (⟨by dsimp only; omega, ug, zh, ui, uR, zP, zD, zT, ztl, zmk, hre, (fun e => uc.trans (zc (by dsimp only at e; omega))), (fun e => ud.trans (ze (by dsimp only at e; omega)))⟩) (by dsimp only; omega) leZ (pqD)
    · skip
      · obtain ⟨mv, hmv⟩ := getE (T := l) (i := y.i) (by omega)
        have hcl := hcl0 (by omega)
        obtain ⟨en, hen, hrd⟩ := hdat mv (List.mem_of_getElem? hmv)
        have hdsz := hsz mv (List.mem_of_getElem? hmv)
        obtain ⟨G9, hG9⟩ := mem_out hen
        obtain ⟨lb, lk, lcs, le, lfr, rfl, hlm, hlat⟩ := hlst (by omega)
        have hnow := hi.nn
        have hn41 : y.i < 41 := by omega
        refine WC_region ?_
        refine WL_val rfl rfl rfl (R_move rfl rfl) ?_
        refine WL_val rfl rfl rfl (R_move rfl rfl) ?_
        refine WL_val rfl rfl rfl (R_indexAddrN rfl Try.underlying50 Try.sizeOf54 rfl rfl (by omega)) ?_
        refine WL_val rfl rfl rfl (R_loadAG (vs := encMv mv) rfl ag54 rfl (pulls_mem (pqD : Pulls DH _ _) hlm) rfl (hlat y.i mv hmv)) ?_
        refine WL_do0 rfl rfl (D_store (vs := [_, _, _]) rfl Try.sizeOf54 rfl rfl rfl rfl rfl (plD) (by exact Nat.le_of_ble_eq_true rfl)) ?_
        rintro _ _ rfl
        refine WLshp (A := DH) (A' := en :: G9) pqD hG9 ?_
        refine WL_nil ?_
        refine WQ_code ?_
        refine WC_seq ?_
        refine WC_seq ?_
        refine WC_region ?_
        refine WL_val rfl rfl rfl (R_fieldAddr rfl fa54_2 rfl) ?_
        refine WL_val rfl rfl rfl (R_load rfl sc23 rfl (mmD) rfl) ?_
        refine WL_val rfl rfl rfl (R_len rfl Try.underlying23 rfl) ?_
        refine WL_val rfl rfl rfl (R_gtr rfl rfl rfl) ?_
        refine WL_nil ?_
        refine WQ_code ?_
        refine WC_dec rfl (fun c4 => ?_) (fun c4 => ?_)
        · refine WC_seq ?_
          refine WC_region ?_
          refine WL_do rfl rfl rfl (D_call (known_ok) rfl rfl rfl rfl (pqD)) ?_
          rintro _ _ ⟨_, ⟨rfl, rfl⟩, rfl⟩
          refine WL_val rfl rfl rfl (R_assign rfl rfl) ?_
          refine WL_nil ?_
          refine WQ_code ?_
          refine WC_ret ?_
          refine WQshp (A := en :: G9) (A' := DH) pqD hG9.symm ?_
          refine WQ_ret rfl rfl (.cons (.tmp rfl) .nil) rfl (by
              exact ⟨rfl, rfl⟩) (pqD)
        · have hd6 : mv.data.length ≤ 600 := by omega
          refine WC_skip ?_
          refine WQ_code ?_
          refine WC_seq ?_
          refine WC_region ?_
          refine WL_val rfl rfl rfl (R_fieldAddr rfl fa54_1 rfl) ?_
          obtain ⟨mm, hmm, hmm6⟩ := clampN mv.n
          refine WL_val rfl rfl rfl (R_load rfl sc3 rfl (mmD) rfl) ?_
          refine WL_val rfl rfl rfl (R_min rfl rfl rfl) ?_
          refine WL_val rfl rfl rfl (R_max rfl rfl rfl) ?_
          refine WL_set (s := 64) (v := .int .i64 (mm : Int)) rfl (by rw [hmm]) ?_
          refine WL_val rfl rfl rfl (R_assign rfl rfl) ?_
          refine WL_nil ?_
          refine WQ_code ?_
          refine WC_cutF (G := HoW) [2, 5, 6, 10, 14, 15, 16, 17, 18, 19, 20, 21, 22, 23, 65, 66, 67, 68, 69, 70, 71, 72, 73, 74, 75, 76, 77, 78, 79, 80, 81, 82, 83, 84, 85, 86, 87, 88, 89, 90, 91, 92, 93, 94, 95, 96, 97, 98, 99, 100, 101, 102, 103, 104, 105, 106, 107, 108, 109, 110, 111, 112, 113, 114, 115, 116, 117, 118, 119, 120, 121, 122, 123, 124, 125, 126, 127, 128, 129, 130, 131, 132, 133, 134, 135, 136, 137, 138, 139, 140, 141, 142, 143, 144, 145, 146, 147, 148, 149, 150, 151, 152, 153, 154, 155, 156, 157, 158, 159, 160, 161, 162, 163, 164, 165, 166, 167, 168, 169, 170, 171, 172, 173, 174, 175, 176, 177, 178, 179, 180, 181, 182, 183, 184, 185, 186, 187, 188, 189, 190, 191, 192, 193, 194, 195, 196, 197, 198, 199, 200, 201, 202, 203, 204] (fun z => CGd z.g b1 z.v ∧ SGd z.h b2 z.u ∧ HI (y.i + 1) z.v z.u z.made z.now (fR z.LR) (fD z.LD) (fP z.LP) z.T ∧ z.LR.length = 41 ∧ z.LP.length = 41 ∧ z.LD.length = 41 ∧ Own z.oT z.T.length z.cT 1 (ivs z.T) z.tT ∧ z.T.length ≤ (y.i + 1) ∧ z.made ≤ l.length ∧ (y.i < l.length → z.v.closed = false) ∧ (y.i = l.length → z.v.calls = [])) (fun z => [(5, .int .u64 (z.now : Int)), (6, .int .i64 (z.made : Int)), (10, slV z.oT z.T.length z.cT)]) (fun z => cH z.g ++ sH z.h ++ [⟨some b3, cl (ivs z.LR ++ []) 3⟩, ⟨some b4, cl (z.LP.flatMap encP ++ []) 9⟩, ⟨some b5, cl (z.LD.flatMap encD ++ []) 4⟩, ⟨z.oT, cl (ivs z.T ++ z.tT) 3⟩]) ((cH y.g ++ sH y.h ++ [⟨some b3, cl (ivs y.LR ++ []) 3⟩, ⟨some b4, cl (y.LP.flatMap encP ++ []) 9⟩, ⟨some b5, cl (y.LD.flatMap encD ++ []) 4⟩, ⟨y.oT, cl (ivs y.T ++ y.tT) 3⟩])) (pqD) ?_ ?_
          · refine WC_seq ?_
            refine WC_region ?_
            refine WL_val rfl rfl rfl (R_fieldAddr rfl fa54_0 rfl) ?_
            refine WL_val rfl rfl rfl (R_load rfl sc3 rfl (mmD) rfl) ?_
            refine WL_nil ?_
            refine WQ_code ?_
            refine WC_block ?_
            refine WC_seq ?_
            refine WC_region ?_
            refine WL_val rfl rfl rfl (R_eql rfl rfl rfl) ?_
            refine WL_val rfl rfl rfl (R_assign rfl rfl) ?_
            refine WL_nil ?_
            refine WQ_code ?_
            refine WC_dec rfl (fun c5 => ?_) (fun c5 => ?_)
            · refine WC_seq ?_
              refine WC_seq ?_
              refine WC_region ?_
              refine WL_val rfl rfl rfl (R_move rfl rfl) ?_
              refine WL_val rfl rfl rfl (R_move rfl rfl) ?_
              refine WL_val rfl rfl rfl (R_len rfl Try.underlying50 rfl) ?_
              refine WL_val rfl rfl rfl (R_eql rfl rfl rfl) ?_
              refine WL_nil ?_
              refine WQ_code ?_
              refine WC_dF rfl (by omega) ?_
              refine WC_skip ?_
              refine WQ_code ?_
              refine WC_seq ?_
              refine WC_region ?_
              refine WL_val rfl rfl rfl (R_move rfl rfl) ?_
              refine WL_val rfl rfl rfl (R_fieldAddr rfl fa54_2 rfl) ?_
              refine WL_val rfl rfl rfl (R_load rfl sc23 rfl (mmD) rfl) ?_
              refine WL_val rfl rfl rfl (R_move rfl rfl) ?_
              refine WL_val rfl rfl rfl (R_move rfl rfl) ?_
              refine WL_val rfl rfl rfl (R_conv (r := (mm : Int)) rfl Try.underlying3 Try.underlying30 rfl (by rw [w64 ⟨by omega, by omega⟩])) ?_
              refine WL_val rfl rfl rfl (R_addR (r := (((y.now + mm : Nat) : Int))) rfl rfl rfl (by rw [w64 ⟨by omega, by omega⟩]; omega)) ?_
              refine WL_val rfl rfl rfl (R_addR (r := (((y.now + mm + 1 : Nat) : Int))) rfl rfl rfl (by rw [w64 ⟨by omega, by omega⟩]; omega)) ?_
              refine WL_do rfl rfl rfl (D_call (k_call hg (hi.pcb (by omega)) (body := mv.data) hrd (y.now + mm + 1) (by omega)) rfl rfl rfl rfl (pqD)) ?_
              rintro _ _ ⟨_, ⟨g', hg', rfl, rfl⟩, rfl⟩
              refine WL_val rfl rfl rfl (R_move rfl rfl) ?_
              rcases hi.call hcl hn41 (bd := mv.data) hd6 hmm6 with ⟨hq1, hq2, hq3⟩ | ⟨hq1, hq2⟩
              · refine WL_val rfl rfl rfl (R_extract rfl rfl rfl) ?_
                refine WL_set (s := 97) (v := .int .i64 ((y.made + 1 : Nat) : Int)) rfl (by rw [hq1]) ?_
                refine WL_val rfl rfl rfl (R_extract rfl rfl rfl) ?_
                refine WL_set (s := 98) (v := .int .i64 0) rfl (by rw [hq1]) ?_
                refine WL_val rfl rfl rfl (R_assign rfl rfl) ?_
                refine WL_val rfl rfl rfl (R_assign rfl rfl) ?_
                refine WL_nil ?_
                refine WQ_code ?_
                refine WC_seq ?_
                refine WC_region ?_
                refine WL_val rfl rfl rfl (R_move rfl rfl) ?_
                refine WL_val rfl rfl rfl (R_eql rfl rfl rfl) ?_
                refine WL_nil ?_
                refine WQ_code ?_
                refine WC_dT rfl (by decide) ?_
                refine WC_seq ?_
                refine WC_region ?_
                refine WL_val rfl rfl rfl (R_move rfl rfl) ?_
                refine WL_val rfl rfl rfl (R_addR (r := ((y.made + 1 : Nat) : Int)) rfl rfl rfl (by have := hi.mn; rw [wrap64_in (by omega) (by omega)]; omega)) ?_
                refine WL_val rfl rfl rfl (R_assign rfl rfl) ?_
                refine WL_nil ?_
                refine WQ_code ?_
                refine WC_seq ?_
                refine WC_region ?_
                refine WL_val rfl rfl rfl (R_move rfl rfl) ?_
                refine WL_val rfl rfl rfl (R_move rfl rfl) ?_
                refine WL_val rfl rfl rfl (R_neq rfl rfl rfl) ?_
                refine WL_nil ?_
                refine WQ_code ?_
                refine WC_dF rfl (by omega) ?_
                refine WC_skip ?_
                refine WQ_cutF (⟨y.i, g', y.h, (y.v.call mv.data (y.now + mm + 1)).1, y.u, y.made + 1, y.now, y.LR, y.LP, y.LD, y.T, y.oT, y.cT, y.tT⟩) (⟨hg', hh, hq3, hlR, hlP, hlD, hoT, (by dsimp only; omega), (by have := hi.mn; dsimp only; omega), (fun _ => hq2), (fun e => absurd e (by omega))⟩) leZ (psZ) (pqD)
              · refine WL_val rfl rfl rfl (R_extract rfl rfl rfl) ?_
                refine WL_set (s := 97) (v := .int .i64 0) rfl (by rw [hq1]) ?_
                refine WL_val rfl rfl rfl (R_extract rfl rfl rfl) ?_
                refine WL_set (s := 98) (v := .int .i64 7) rfl (by rw [hq1]) ?_
                rw [hq2] at hg'
                refine WL_val rfl rfl rfl (R_assign rfl rfl) ?_
                refine WL_val rfl rfl rfl (R_assign rfl rfl) ?_
                refine WL_nil ?_
                refine WQ_code ?_
                refine WC_seq ?_
                refine WC_region ?_
                refine WL_val rfl rfl rfl (R_move rfl rfl) ?_
                refine WL_val rfl rfl rfl (R_eql rfl rfl rfl) ?_
                refine WL_nil ?_
                refine WQ_code ?_
                refine WC_dF rfl (by decide) ?_
                refine WC_seq ?_
                refine WC_region ?_
                refine WL_val rfl rfl rfl (R_move rfl rfl) ?_
                refine WL_val rfl rfl rfl (R_neq rfl rfl rfl) ?_
                refine WL_nil ?_
                refine WQ_code ?_
                refine WC_dF rfl (by decide) ?_
                refine WC_skip ?_
                refine WQ_cutF (⟨y.i, g', y.h, y.v, y.u, y.made, y.now, y.LR, y.LP, y.LD, y.T, y.oT, y.cT, y.tT⟩) (⟨hg', hh, hi.mono, hlR, hlP, hlD, hoT, (by dsimp only; omega), hmk, (fun _ => hcl), (fun e => absurd e (by omega))⟩) leZ (psZ) (pqD)
            · refine WC_seq ?_
              refine WC_region ?_
              refine WL_val rfl rfl rfl (R_eql rfl rfl rfl) ?_
              refine WL_val rfl rfl rfl (R_assign rfl rfl) ?_
              refine WL_nil ?_
              refine WQ_code ?_
              refine WC_dec rfl (fun c6 => ?_) (fun c6 => ?_)
              · refine WC_region ?_
                refine WL_val rfl rfl rfl (R_move rfl rfl) ?_
                refine WL_val rfl rfl rfl (R_move rfl rfl) ?_
                refine WL_do rfl rfl rfl (D_call (k_cancel hg (hi.pcb (by omega)) (mm : Int)) rfl rfl rfl rfl (pqD)) ?_
                rintro _ _ ⟨_, ⟨g', hg', rfl, rfl⟩, rfl⟩
                refine WL_nil ?_
                refine WQ_cutF (⟨y.i, g', y.h, (y.v.cancel (mm : Int)).1, y.u, y.made, y.now, y.LR, y.LP, y.LD, y.T, y.oT, y.cT, y.tT⟩) (⟨hg', hh, (hi.cancel (mm : Int)).2, hlR, hlP, hlD, hoT, (by dsimp only; omega), hmk, (fun _ => ((hi.cancel (mm : Int)).1.trans hcl)), (fun e => absurd e (by omega))⟩) leZ (psZ) (pqD)
              · refine WC_seq ?_
                refine WC_region ?_
                refine WL_val rfl rfl rfl (R_eql rfl rfl rfl) ?_
                refine WL_val rfl rfl rfl (R_assign rfl rfl) ?_
                refine WL_nil ?_
                refine WQ_code ?_
                refine WC_dec rfl (fun c7 => ?_) (fun c7 => ?_)
                · refine WC_seq ?_
                  refine WC_region ?_
                  refine WL_val rfl rfl rfl (R_move rfl rfl) ?_
                  refine WL_val rfl rfl rfl (R_move rfl rfl) ?_
                  refine WL_val rfl rfl rfl (R_conv (r := (mm : Int)) rfl Try.underlying3 Try.underlying30 rfl (by rw [w64 ⟨by omega, by omega⟩])) ?_
                  refine WL_val rfl rfl rfl (R_addR (r := (((y.now + mm : Nat) : Int))) rfl rfl rfl (by rw [w64 ⟨by omega, by omega⟩]; omega)) ?_
                  refine WL_val rfl rfl rfl (R_assign rfl rfl) ?_
                  refine WL_nil ?_
                  refine WQ_code ?_
                  refine WC_seq ?_
                  refine WC_region ?_
                  refine WL_val rfl rfl rfl (R_move rfl rfl) ?_
                  refine WL_val rfl rfl rfl (R_move rfl rfl) ?_
                  refine WL_do rfl rfl rfl (D_call (k_adv hg (hi.pcb (by omega)) (y.now + mm)) rfl rfl rfl rfl (pqD)) ?_
                  rintro _ _ ⟨_, ⟨g', hg', rfl, rfl⟩, rfl⟩
                  refine WL_val rfl rfl rfl (R_neq rfl rfl rfl) ?_
                  refine WL_set (s := 122) (v := .bool false) rfl (by exact congrArg Value.bool (decide_eq_false (fun e => e (hi.adv hn41 hmm6).1))) ?_
                  refine WL_nil ?_
                  refine WQ_code ?_
                  refine WC_F rfl ?_
                  refine WC_skip ?_
                  refine WQ_cutF (⟨y.i, g', y.h, (y.v.advance (y.now + mm)).1, y.u, y.made, y.now + mm, y.LR, y.LP, y.LD, y.T, y.oT, y.cT, y.tT⟩) (⟨hg', hh, (hi.adv hn41 hmm6).2.2, hlR, hlP, hlD, hoT, (by dsimp only; omega), hmk, (fun _ => ((hi.adv hn41 hmm6).2.1.trans hcl)), (fun e => absurd e (by omega))⟩) leZ (psZ) (pqD)
                · refine WC_seq ?_
                  refine WC_region ?_
                  refine WL_val rfl rfl rfl (R_eql rfl rfl rfl) ?_
                  refine WL_val rfl rfl rfl (R_assign rfl rfl) ?_
                  refine WL_nil ?_
                  refine WQ_code ?_
                  refine WC_dec rfl (fun c8 => ?_) (fun c8 => ?_)
                  · refine WC_seq ?_
                    refine WC_region ?_
                    refine WL_val rfl rfl rfl (R_move rfl rfl) ?_
                    rcases hqu : y.u.qu with _ | ⟨rr, rest⟩
                    · refine WL_do rfl rfl rfl (D_call (s_next0 hh (hi.pvb (by omega)) hqu) rfl rfl rfl rfl (pqD)) ?_
                      rintro _ _ ⟨_, ⟨h', hh', rfl, rfl⟩, rfl⟩
                      refine WL_val rfl rfl rfl (R_move rfl rfl) ?_
                      refine WL_val rfl rfl rfl (R_extract rfl rfl rfl) ?_
                      refine WL_val rfl rfl rfl (R_extract rfl rfl rfl) ?_
                      refine WL_do rfl rfl rfl (D_alloc rfl zv60) ?_
                      rintro _ _ ⟨b9, rfl, rfl⟩
                      refine WL_do0 rfl rfl (D_store (vs := [_, _, _]) rfl Try.sizeOf60 rfl rfl rfl rfl rfl (plD) (by exact Nat.le_of_ble_eq_true rfl)) ?_
                      rintro _ _ rfl
                      refine WL_val rfl rfl rfl (R_assign rfl rfl) ?_
                      refine WL_nil ?_
                      refine WQ_code ?_
                      refine WC_seq ?_
                      refine WC_region ?_
                      refine WL_val rfl rfl rfl (R_move rfl rfl) ?_
                      refine WL_nil ?_
                      refine WQ_code ?_
                      refine WC_F rfl ?_
                      refine WC_skip ?_
                      refine WQ_cutF (⟨y.i, y.g, h', y.v, y.u, y.made, y.now, y.LR, y.LP, y.LD, y.T, y.oT, y.cT, y.tT⟩) (⟨hg, hh', hi.mono, hlR, hlP, hlD, hoT, (by dsimp only; omega), hmk, (fun _ => hcl), (fun e => absurd e (by omega))⟩) leZ (psZ) (pqD)
                    · refine WL_do rfl rfl rfl (D_call (s_next1 hh (hi.pvb (by omega)) hqu) rfl rfl rfl rfl (pqD)) ?_
                      rintro _ _ ⟨_, ⟨h', o9, c9n, tl9n, hh', own9n, rfl, rfl⟩, rfl⟩
                      refine WL_val rfl rfl rfl (R_move rfl rfl) ?_
                      refine WL_val rfl rfl rfl (R_extract rfl rfl rfl) ?_
                      refine WL_val rfl rfl rfl (R_extract rfl rfl rfl) ?_
                      refine WL_do rfl rfl rfl (D_alloc rfl zv60) ?_
                      rintro _ _ ⟨b10, rfl, rfl⟩
                      refine WL_do0 rfl rfl (D_store (vs := [_, _, _]) rfl Try.sizeOf60 rfl rfl rfl rfl rfl (plD) (by exact Nat.le_of_ble_eq_true rfl)) ?_
                      rintro _ _ rfl
                      refine WL_val rfl rfl rfl (R_assign rfl rfl) ?_
                      refine WL_nil ?_
                      refine WQ_code ?_
                      refine WC_seq ?_
                      refine WC_region ?_
                      refine WL_val rfl rfl rfl (R_move rfl rfl) ?_
                      refine WL_nil ?_
                      refine WQ_code ?_
                      refine WC_T rfl ?_
                      refine WC_seq ?_
                      refine WC_seq ?_
                      refine WC_region ?_
                      refine WL_val rfl rfl rfl (R_fieldAddr rfl fa60_0 rfl) ?_
                      refine WL_val rfl rfl rfl (R_load rfl sc3 rfl (mmD) rfl) ?_
                      refine WL_val rfl rfl rfl (R_lss rfl rfl rfl) ?_
                      refine WL_set (s := 133) (v := .bool false) rfl (by exact congrArg Value.bool (decide_eq_false (by have := (hi.next hqu).1; omega))) ?_
                      refine WL_val rfl rfl rfl (R_move rfl rfl) ?_
                      refine WL_val rfl rfl rfl (R_fieldAddr rfl fa60_0 rfl) ?_
                      refine WL_val rfl rfl rfl (R_load rfl sc3 rfl (mmD) rfl) ?_
                      refine WL_val rfl rfl rfl (R_move rfl rfl) ?_
                      refine WL_val rfl rfl rfl (R_gtr rfl rfl rfl) ?_
                      refine WL_set (s := 138) (v := .bool false) rfl (by exact congrArg Value.bool (decide_eq_false (by have := (hi.next hqu).2.1; omega))) ?_
                      refine WL_val rfl rfl rfl (R_pickF rfl rfl rfl) ?_
                      refine WL_nil ?_
                      refine WQ_code ?_
                      refine WC_F rfl ?_
                      refine WC_skip ?_
                      refine WQ_code ?_
                      refine WC_region ?_
                      refine WL_val rfl rfl rfl (R_move rfl rfl) ?_
                      refine WL_val rfl rfl rfl (R_fieldAddr rfl fa60_0 rfl) ?_
                      refine WL_val rfl rfl rfl (R_load rfl sc3 rfl (mmD) rfl) ?_
                      refine WL_do rfl rfl rfl (D_buildSlice rfl si36 rfl rfl rfl) ?_
                      rintro _ _ ⟨b11, rfl, rfl⟩
                      refine WL_do rfl rfl rfl (D_append rfl si36 rfl hoT plD rfl mmD (atZ : At _ 0 [_]) rfl rfl (by omega) (by omega)) ?_
                      rintro _ _ ⟨ob9, c9, tl9, rfl, own9, rfl⟩
                      rw [show ivs y.T ++ [Value.int .i64 rr.id] = ivs (y.T ++ [rr.id]) from by simp, show y.T.length + 1 = (y.T ++ [rr.id]).length from by simp] at own9
                      rw [show ivs y.T ++ [Value.int .i64 rr.id] = ivs (y.T ++ [rr.id]) from by simp]
                      refine WL_set (s := 144) (v := slV ob9 (y.T ++ [rr.id]).length c9) rfl (by rw [List.length_append]; rfl) ?_
                      refine WL_val rfl rfl rfl (R_assign rfl rfl) ?_
                      refine WL_nil ?_
                      refine WQ_cutF (⟨y.i, y.g, h', y.v, { y.u with qu := rest }, y.made, y.now, y.LR, y.LP, y.LD, y.T ++ [rr.id], ob9, c9, tl9⟩) (⟨hg, hh', (hi.next hqu).2.2, hlR, hlP, hlD, own9, (by dsimp only; simp; omega), hmk, (fun _ => hcl), (fun e => absurd e (by omega))⟩) leZ (psZ) (pqD)
                  · refine WC_seq ?_
                    refine WC_region ?_
                    refine WL_val rfl rfl rfl (R_eql rfl rfl rfl) ?_
                    refine WL_val rfl rfl rfl (R_assign rfl rfl) ?_
                    refine WL_nil ?_
                    refine WQ_code ?_
                    refine WC_dec rfl (fun c9 => ?_) (fun c9 => ?_)
                    · refine WC_seq ?_
                      refine WC_region ?_
                      refine WL_val rfl rfl rfl (R_move rfl rfl) ?_
                      refine WL_val rfl rfl rfl (R_len rfl Try.underlying36 rfl) ?_
                      refine WL_val rfl rfl rfl (R_gtr rfl rfl rfl) ?_
                      refine WL_nil ?_
                      refine WQ_code ?_
                      refine WC_dec rfl (fun c10 => ?_) (fun c10 => ?_)
                      · have hT0 : 0 < y.T.length := by omega
                        refine WC_seq ?_
                        refine WC_region ?_
                        refine WL_val rfl rfl rfl (R_move rfl rfl) ?_
                        refine WL_val rfl rfl rfl (R_move rfl rfl) ?_
                        refine WL_val rfl rfl rfl (R_move rfl rfl) ?_
                        refine WL_val rfl rfl rfl (R_len rfl Try.underlying36 rfl) ?_
                        refine WL_val rfl rfl rfl (R_remR (r := ((mm % y.T.length : Nat) : Int)) rfl rfl rfl (by omega) (by rw [Int.tmod_eq_emod_of_nonneg (by omega)]; norm_cast)) ?_
                        obtain ⟨wT, hwT⟩ := hoT.some_of hT0
                        obtain ⟨tid, htid⟩ := getE (T := y.T) (i := mm % y.T.length) (Nat.mod_lt _ hT0)
                        have htm := List.mem_of_getElem? htid
                        have htk := hi.tk tid htm
                        obtain ⟨tn, htn⟩ : ∃ tn : Nat, tid = tn := ⟨tid.toNat, by omega⟩
                        have hul := hi.ul
                        have hmn := hi.mn
                        obtain ⟨sp9, hsp9, _⟩ := fP_at (L := y.LP) (i := tn) (by omega)
                        refine WL_val rfl rfl rfl (R_idxO hwT rfl Try.underlying36 Try.sizeOf3 rfl rfl (by exact Nat.mod_lt _ hT0)) ?_
                        refine WL_val rfl rfl rfl (R_loadO (v := .int .i64 tid) hwT rfl sc3 rfl (mmD) (fm_get0 encI1 htid (j := 0) (by omega))) ?_
                        refine WL_val rfl rfl rfl (R_assign rfl rfl) ?_
                        refine WL_nil ?_
                        refine WQ_code ?_
                        refine WC_seq ?_
                        refine WC_region ?_
                        refine WL_val rfl rfl rfl (R_move rfl rfl) ?_
                        refine WL_val rfl rfl rfl (R_move rfl rfl) ?_
                        refine WL_val rfl rfl rfl (R_fieldAddr rfl fa54_2 rfl) ?_
                        refine WL_val rfl rfl rfl (R_load rfl sc23 rfl (mmD) rfl) ?_
                        refine WL_do rfl rfl rfl (D_call (s_reply hh (hi.pvb (by omega)) tid 0 (body := mv.data) hrd (by omega)) rfl rfl rfl rfl (pqD)) ?_
                        rintro _ _ ⟨_, ⟨h', hh', rfl, rfl⟩, rfl⟩
                        refine WL_val rfl rfl rfl (R_assign rfl rfl) ?_
                        refine WL_nil ?_
                        refine WQ_code ?_
                        refine WC_seq ?_
                        refine WC_seq ?_
                        refine WC_region ?_
                        rcases hi.reply hn41 htm (bd := mv.data) hd6 with ⟨hq1, hq2, hq3⟩ | ⟨hq1, hq2⟩
                        · rw [htn, Int.toNat_natCast] at hq2 hq3
                          have hi9 : HI (y.i + 1) y.v (y.u.reply tid 0 mv.data).1 y.made y.now (fR y.LR) (fD (y.LD.set tn true)) (fP (y.LP.set tn ⟨mv.data.toArray⟩)) y.T := by rw [fD_set (by omega), fP_set (by omega), byt_mk, htn]; exact hq3
                          refine WL_val rfl rfl rfl (R_move rfl rfl) ?_
                          refine WL_val rfl rfl rfl (R_eql rfl rfl rfl) ?_
                          refine WL_set (s := 163) (v := .bool true) rfl (by exact congrArg Value.bool (decide_eq_true (hq1))) ?_
                          refine WL_val rfl rfl rfl (R_move rfl rfl) ?_
                          refine WL_val rfl rfl rfl (R_move rfl rfl) ?_
                          refine WL_val rfl rfl rfl (R_move rfl rfl) ?_
                          refine WL_set (s := 166) (v := .int .i64 (tn : Int)) rfl (by rw [htn]) ?_
                          refine WL_val rfl rfl rfl (R_indexAddrN rfl Try.underlying52 Try.sizeOf4 rfl rfl (by omega)) ?_
                          refine WL_val rfl rfl rfl (R_load (v := .bool (fD y.LD tn)) rfl sc4 rfl (mmD) (fm_get0 encD1 (fD_at (by omega)) (j := 0) (by omega))) ?_
                          refine WL_set (s := 168) (v := .bool false) rfl (by rw [hq2]) ?_
                          refine WL_val rfl rfl rfl (R_pickT rfl rfl rfl) ?_
                          refine WL_val rfl rfl rfl (R_move rfl rfl) ?_
                          refine WL_val rfl rfl rfl (R_move rfl rfl) ?_
                          refine WL_val rfl rfl rfl (R_neq rfl rfl rfl) ?_
                          refine WL_set (s := 172) (v := .bool false) rfl (by exact congrArg Value.bool (decide_eq_false (fun e => e hq1))) ?_
                          refine WL_val rfl rfl rfl (R_move rfl rfl) ?_
                          refine WL_skip rfl rfl rfl ?_
                          refine WL_skip rfl rfl rfl ?_
                          refine WL_val rfl rfl rfl (R_pickF rfl rfl rfl) ?_
                          refine WL_val rfl rfl rfl (R_pickF rfl rfl rfl) ?_
                          refine WL_nil ?_
                          refine WQ_code ?_
                          refine WC_F rfl ?_
                          refine WC_skip ?_
                          refine WQ_code ?_
                          refine WC_seq ?_
                          refine WC_region ?_
                          refine WL_val rfl rfl rfl (R_move rfl rfl) ?_
                          refine WL_val rfl rfl rfl (R_eql rfl rfl rfl) ?_
                          refine WL_set (s := 179) (v := .bool true) rfl (by exact congrArg Value.bool (decide_eq_true (hq1))) ?_
                          refine WL_nil ?_
                          refine WQ_code ?_
                          refine WC_T rfl ?_
                          refine WC_region ?_
                          refine WL_val rfl rfl rfl (R_move rfl rfl) ?_
                          refine WL_val rfl rfl rfl (R_move rfl rfl) ?_
                          refine WL_val rfl rfl rfl (R_move rfl rfl) ?_
                          refine WL_val rfl rfl rfl (R_move rfl rfl) ?_
                          refine WL_val rfl rfl rfl (R_fieldAddr rfl fa54_2 rfl) ?_
                          refine WL_val rfl rfl rfl (R_load rfl sc23 rfl (mmD) rfl) ?_
                          refine WL_val rfl rfl rfl (R_byteStr rfl Try.underlying23 Try.underlying5 Try.underlying9 rfl hrd mmD) ?_
                          refine WL_set (s := 181) (v := .int .i64 (tn : Int)) rfl (by rw [htn]) ?_
                          refine WL_val rfl rfl rfl (R_indexAddrN rfl Try.underlying52 Try.sizeOf4 rfl rfl (by omega)) ?_
                          refine WL_do0 rfl rfl (D_store (vs := [_]) rfl Try.sizeOf4 rfl rfl rfl rfl rfl (plD) (by exact fm_room0 encD1 (show tn < y.LD.length by omega) (j := 0) (by omega))) ?_
                          rintro _ _ rfl
                          have hput1 := fm_put0 encD1 true (fD_at (L := y.LD) (i := tn) (by omega)) (j := 0) (vs := [.bool true]) (by simp) rfl (tl := [])
                          rw [Nat.add_zero] at hput1
                          rw [hput1]
                          refine WL_set (s := 183) (v := .int .i64 (tn : Int)) rfl (by rw [htn]) ?_
                          refine WL_val rfl rfl rfl (R_indexAddrN rfl Try.underlying51 Try.sizeOf9 rfl rfl (by omega)) ?_
                          refine WL_do0 rfl rfl (D_store (vs := [_]) rfl Try.sizeOf9 rfl rfl rfl rfl rfl (plD) (by exact fm_room0 encP1 (show tn < y.LP.length by omega) (j := 0) (by omega))) ?_
                          rintro _ _ rfl
                          have hput2 := fm_put0 encP1 (⟨mv.data.toArray⟩ : ByteArray) (hsp9) (j := 0) (vs := [.string ⟨mv.data.toArray⟩]) (by simp) rfl (tl := [])
                          rw [Nat.add_zero] at hput2
                          rw [hput2]
                          refine WL_nil ?_
                          refine WQ_cutF (⟨y.i, y.g, h', y.v, (y.u.reply tid 0 mv.data).1, y.made, y.now, y.LR, y.LP.set tn ⟨mv.data.toArray⟩, y.LD.set tn true, y.T, y.oT, y.cT, y.tT⟩) (⟨hg, hh', hi9, hlR, (by dsimp only; rw [List.length_set]; exact hlP), (by dsimp only; rw [List.length_set]; exact hlD), hoT, (by dsimp only; omega), hmk, (fun _ => hcl), (fun e => absurd e (by omega))⟩) leZ (psZ) (pqD)
                        · rw [hq2] at hh'
                          refine WL_val rfl rfl rfl (R_move rfl rfl) ?_
                          refine WL_val rfl rfl rfl (R_eql rfl rfl rfl) ?_
                          refine WL_set (s := 163) (v := .bool false) rfl (by exact congrArg Value.bool (decide_eq_false (by rw [hq1]; decide))) ?_
                          refine WL_val rfl rfl rfl (R_move rfl rfl) ?_
                          refine WL_skip rfl rfl rfl ?_
                          refine WL_skip rfl rfl rfl ?_
                          refine WL_skip rfl rfl rfl ?_
                          refine WL_skip rfl rfl rfl ?_
                          refine WL_val rfl rfl rfl (R_pickF rfl rfl rfl) ?_
                          refine WL_val rfl rfl rfl (R_move rfl rfl) ?_
                          refine WL_val rfl rfl rfl (R_move rfl rfl) ?_
                          refine WL_val rfl rfl rfl (R_neq rfl rfl rfl) ?_
                          refine WL_set (s := 172) (v := .bool true) rfl (by exact congrArg Value.bool (decide_eq_true (by rw [hq1]; decide))) ?_
                          refine WL_val rfl rfl rfl (R_move rfl rfl) ?_
                          refine WL_val rfl rfl rfl (R_move rfl rfl) ?_
                          refine WL_val rfl rfl rfl (R_neq rfl rfl rfl) ?_
                          refine WL_set (s := 175) (v := .bool false) rfl (by exact congrArg Value.bool (decide_eq_false (fun e => e hq1))) ?_
                          refine WL_val rfl rfl rfl (R_pickT rfl rfl rfl) ?_
                          refine WL_val rfl rfl rfl (R_pickF rfl rfl rfl) ?_
                          refine WL_nil ?_
                          refine WQ_code ?_
                          refine WC_F rfl ?_
                          refine WC_skip ?_
                          refine WQ_code ?_
                          refine WC_seq ?_
                          refine WC_region ?_
                          refine WL_val rfl rfl rfl (R_move rfl rfl) ?_
                          refine WL_val rfl rfl rfl (R_eql rfl rfl rfl) ?_
                          refine WL_set (s := 179) (v := .bool false) rfl (by exact congrArg Value.bool (decide_eq_false (by rw [hq1]; decide))) ?_
                          refine WL_nil ?_
                          refine WQ_code ?_
                          refine WC_F rfl ?_
                          refine WC_skip ?_
                          refine WQ_cutF (⟨y.i, y.g, h', y.v, y.u, y.made, y.now, y.LR, y.LP, y.LD, y.T, y.oT, y.cT, y.tT⟩) (⟨hg, hh', hi.mono, hlR, hlP, hlD, hoT, (by dsimp only; omega), hmk, (fun _ => hcl), (fun e => absurd e (by omega))⟩) leZ (psZ) (pqD)
                      · refine WC_skip ?_
                        refine WQ_cutF (⟨y.i, y.g, y.h, y.v, y.u, y.made, y.now, y.LR, y.LP, y.LD, y.T, y.oT, y.cT, y.tT⟩) (⟨hg, hh, hi.mono, hlR, hlP, hlD, hoT, (by dsimp only; omega), hmk, (fun _ => hcl), (fun e => absurd e (by omega))⟩) leZ (psZ) (pqD)
                    · refine WC_seq ?_
                      refine WC_region ?_
                      refine WL_val rfl rfl rfl (R_eql rfl rfl rfl) ?_
                      refine WL_val rfl rfl rfl (R_assign rfl rfl) ?_
                      refine WL_nil ?_
                      refine WQ_code ?_
                      refine WC_dec rfl (fun c11 => ?_) (fun c11 => ?_)
                      · refine WC_seq ?_
                        refine WC_region ?_
                        refine WL_val rfl rfl rfl (R_move rfl rfl) ?_
                        refine WL_val rfl rfl rfl (R_move rfl rfl) ?_
                        refine WL_do rfl rfl rfl (D_call (k_out1 hg (hi.pcb (by omega)) mm (by omega)) rfl rfl rfl rfl (pqD)) ?_
                        rintro _ _ ⟨_, ⟨g', o9, c9, tl9, hg', own9, rfl, rfl⟩, rfl⟩
                        refine WL_val rfl rfl rfl (R_move rfl rfl) ?_
                        refine WL_val rfl rfl rfl (R_extract rfl rfl rfl) ?_
                        refine WL_val rfl rfl rfl (R_extract rfl rfl rfl) ?_
                        refine WL_val rfl rfl rfl (R_assign rfl rfl) ?_
                        refine WL_val rfl rfl rfl (R_assign rfl rfl) ?_
                        refine WL_nil ?_
                        refine WQ_code ?_
                        refine WC_seq ?_
                        refine WC_region ?_
                        refine WL_val rfl rfl rfl (R_move rfl rfl) ?_
                        refine WL_val rfl rfl rfl (R_neq rfl rfl rfl) ?_
                        refine WL_set (s := 198) (v := .bool false) rfl (by rfl) ?_
                        refine WL_val rfl rfl rfl (R_move rfl rfl) ?_
                        refine WL_val rfl rfl rfl (R_move rfl rfl) ?_
                        refine WL_val rfl rfl rfl (R_move rfl rfl) ?_
                        refine WL_do rfl rfl rfl (D_call (s_recv hh (hi.pvb (by omega)) (RdB.own own9) (by simp; omega)) rfl rfl rfl rfl (pqD)) ?_
                        rintro _ _ ⟨_, ⟨h', hh', rfl, rfl⟩, rfl⟩
                        refine WL_val rfl rfl rfl (R_neq rfl rfl rfl) ?_
                        refine WL_set (s := 203) (v := .bool false) rfl (by exact congrArg Value.bool (decide_eq_false (fun e => e (hi.up hn41 mm).1))) ?_
                        refine WL_val rfl rfl rfl (R_pickF rfl rfl rfl) ?_
                        refine WL_nil ?_
                        refine WQ_code ?_
                        refine WC_F rfl ?_
                        refine WC_skip ?_
                        refine WQ_cutF (⟨y.i, g', h', { y.v with out := y.v.out.drop mm }, (y.u.recv (y.v.out.take mm)).1, y.made, y.now, y.LR, y.LP, y.LD, y.T, y.oT, y.cT, y.tT⟩) (⟨hg', hh', (hi.up hn41 mm).2, hlR, hlP, hlD, hoT, (by dsimp only; omega), hmk, (fun _ => hcl), (fun e => absurd e (by omega))⟩) leZ (psZ) (pqD)
                      · refine WC_seq ?_
                        refine WC_region ?_
                        refine WL_val rfl rfl rfl (R_move rfl rfl) ?_
                        refine WL_val rfl rfl rfl (R_move rfl rfl) ?_
                        refine WL_do rfl rfl rfl (D_call (s_out1 hh (hi.pvb (by omega)) mm (by omega)) rfl rfl rfl rfl (pqD)) ?_
                        rintro _ _ ⟨_, ⟨h', o9, c9, tl9, hh', own9, rfl, rfl⟩, rfl⟩
                        refine WL_val rfl rfl rfl (R_move rfl rfl) ?_
                        refine WL_val rfl rfl rfl (R_extract rfl rfl rfl) ?_
                        refine WL_val rfl rfl rfl (R_extract rfl rfl rfl) ?_
                        refine WL_val rfl rfl rfl (R_assign rfl rfl) ?_
                        refine WL_val rfl rfl rfl (R_assign rfl rfl) ?_
                        refine WL_nil ?_
                        refine WQ_code ?_
                        refine WC_seq ?_
                        refine WC_region ?_
                        refine WL_val rfl rfl rfl (R_move rfl rfl) ?_
                        refine WL_val rfl rfl rfl (R_neq rfl rfl rfl) ?_
                        refine WL_set (s := 74) (v := .bool false) rfl (by rfl) ?_
                        refine WL_val rfl rfl rfl (R_move rfl rfl) ?_
                        refine WL_val rfl rfl rfl (R_move rfl rfl) ?_
                        refine WL_val rfl rfl rfl (R_move rfl rfl) ?_
                        refine WL_do rfl rfl rfl (D_call (k_recv hg (hi.pcb (by omega)) (RdB.own own9) (by simp; omega)) rfl rfl rfl rfl (pqD)) ?_
                        rintro _ _ ⟨_, ⟨g', hg', rfl, rfl⟩, rfl⟩
                        refine WL_val rfl rfl rfl (R_neq rfl rfl rfl) ?_
                        refine WL_set (s := 79) (v := .bool false) rfl (by exact congrArg Value.bool (decide_eq_false (fun e => e (hi.down hcl hn41 mm).1))) ?_
                        refine WL_val rfl rfl rfl (R_pickF rfl rfl rfl) ?_
                        refine WL_nil ?_
                        refine WQ_code ?_
                        refine WC_F rfl ?_
                        refine WC_skip ?_
                        refine WQ_cutF (⟨y.i, g', h', (y.v.recv (y.u.out.take mm)).1, { y.u with out := y.u.out.drop mm }, y.made, y.now, y.LR, y.LP, y.LD, y.T, y.oT, y.cT, y.tT⟩) (⟨hg', hh', (hi.down hcl hn41 mm).2.2, hlR, hlP, hlD, hoT, (by dsimp only; omega), hmk, (fun _ => (hi.down hcl hn41 mm).2.1), (fun e => absurd e (by omega))⟩) leZ (psZ) (pqD)
          · rintro z ⟨zg, zh, zi, zR, zP, zD, zT, ztl, zmk, zc, ze⟩
            refine WC_seq ?_
            refine WC_seq ?_
            refine WC_region ?_
            refine WL_val rfl rfl rfl (R_assign rfl rfl) ?_
            refine WL_nil ?_
            refine WQ_code ?_
            refine WC_block ?_
            refine WC_loopF (G := HoD) [2, 24, 25, 26, 205, 206, 207, 208, 209, 210, 211, 212, 213, 214, 215, 216, 217, 218, 219, 220, 221, 222, 223, 224, 225, 226, 227, 228, 229, 230, 231, 232, 233, 234, 235, 236, 237, 238, 239, 240, 241, 242, 243, 244, 245, 246, 247, 248, 249, 250, 251, 252, 253, 254, 255, 256, 257, 258, 259, 260, 261, 262, 263, 264, 265, 266, 267, 268, 269, 270, 271, 272, 273, 274, 275, 276, 277, 278, 279, 280, 281, 282, 283, 284] (fun u9 => u9.k + u9.v.res.length ≤ 41 ∧ CGd u9.g b1 u9.v ∧ HI (y.i + 1) u9.v z.u z.made z.now (fR u9.LR) (fD z.LD) (fP z.LP) z.T ∧ u9.LR.length = 41 ∧ u9.v.closed = z.v.closed ∧ u9.v.calls = z.v.calls) (fun u9 => [(24, .int .i64 (u9.k : Int))]) (fun u9 => cH u9.g ++ [⟨some b3, cl (ivs u9.LR ++ []) 3⟩]) (fun u9 => 41 - u9.k) (⟨0, z.g, z.v, z.LR⟩) (⟨by have := zi.resl; dsimp only; omega, zg, zi, zR, rfl, rfl⟩) leZ (pqD) ?_
            rintro u9 ⟨ukr, ug, ui, uR, uc, ud⟩
            refine WC_seq ?_
            refine WC_seq ?_
            refine WC_region ?_
            refine WL_val rfl rfl rfl (R_move rfl rfl) ?_
            refine WL_val rfl rfl rfl (R_lss rfl rfl rfl) ?_
            refine WL_nil ?_
            refine WQ_code ?_
            refine WC_dec rfl (fun c12 => ?_) (fun c12 => ?_)
            · refine WC_skip ?_
              refine WQ_code ?_
              refine WC_seq ?_
              refine WC_block ?_
              refine WC_seq ?_
              refine WC_region ?_
              refine WL_val rfl rfl rfl (R_move rfl rfl) ?_
              rcases hre : u9.v.res with _ | ⟨rr, rest⟩
              · refine WL_do rfl rfl rfl (D_call (k_next0 ug (ui.pcb (by omega)) hre) rfl rfl rfl rfl (pqD)) ?_
                rintro _ _ ⟨_, ⟨g2, ug2, rfl, rfl⟩, rfl⟩
                refine WL_val rfl rfl rfl (R_move rfl rfl) ?_
                refine WL_val rfl rfl rfl (R_extract rfl rfl rfl) ?_
                refine WL_val rfl rfl rfl (R_extract rfl rfl rfl) ?_
                refine WL_do rfl rfl rfl (D_alloc rfl zv66) ?_
                rintro _ _ ⟨b12, rfl, rfl⟩
                refine WL_do0 rfl rfl (D_store (vs := [_, _, _]) rfl Try.sizeOf66 rfl rfl rfl rfl rfl (plD) (by exact Nat.le_of_ble_eq_true rfl)) ?_
                rintro _ _ rfl
                refine WL_val rfl rfl rfl (R_assign rfl rfl) ?_
                refine WL_nil ?_
                refine WQ_code ?_
                refine WC_seq ?_
                refine WC_seq ?_
                refine WC_region ?_
                refine WL_val rfl rfl rfl (R_move rfl rfl) ?_
                refine WL_val rfl rfl rfl (R_not rfl rfl) ?_
                refine WL_nil ?_
                refine WQ_code ?_
                refine WC_T rfl ?_
                refine WC_exit ?_
                refine WQ_code ?_
                refine WC_seq ?_
                refine WC_region ?_
                refine WL_val rfl rfl rfl (R_move rfl rfl) ?_
                refine WL_val rfl rfl rfl (R_move rfl rfl) ?_
                refine WL_val rfl rfl rfl (R_len rfl Try.underlying50 rfl) ?_
                refine WL_val rfl rfl rfl (R_lss rfl rfl rfl) ?_
                refine WL_set (s := 288) (v := .bool true) rfl (by exact congrArg Value.bool (decide_eq_true (by omega))) ?_
                refine WL_val rfl rfl rfl (R_move rfl rfl) ?_
                refine WL_val rfl rfl rfl (R_fieldAddr rfl fa54_0 rfl) ?_
                refine WL_val rfl rfl rfl (R_load rfl sc3 rfl (mmD) rfl) ?_
                refine WL_val rfl rfl rfl (R_neq rfl rfl rfl) ?_
                refine WL_val rfl rfl rfl (R_pickT rfl rfl rfl) ?_
                refine WL_val rfl rfl rfl (R_move rfl rfl) ?_
                refine WL_splitD (s := 294) rfl (fun c13 => ?_) (fun c13 => ?_)
                · refine WL_val rfl rfl rfl (R_move rfl rfl) ?_
                  refine WL_do rfl rfl rfl (D_call (k_open ug2 (ui.pcb (by omega))) rfl rfl rfl rfl (pqD)) ?_
                  rintro _ _ ⟨_, ⟨oq, cq, tq, rfl, ownq, rfl⟩, rfl⟩
                  refine WL_val rfl rfl rfl (R_len rfl Try.underlying36 rfl) ?_
                  refine WL_val rfl rfl rfl (R_move rfl rfl) ?_
                  refine WL_val rfl rfl rfl (R_gtr rfl rfl rfl) ?_
                  refine WL_set (s := 299) (v := .bool false) rfl (by exact congrArg Value.bool (decide_eq_false (by have := ui.ci.len; rw [List.length_map]; omega))) ?_
                  refine WL_val rfl rfl rfl (R_pickT rfl rfl rfl) ?_
                  refine WL_nil ?_
                  refine WQ_code ?_
                  refine WC_F rfl ?_
                  refine WC_skip ?_
                  refine WQ_code ?_
                  refine WC_region ?_
                  refine WL_val rfl rfl rfl (R_move rfl rfl) ?_
                  refine WL_val rfl rfl rfl (R_add rfl rfl rfl (by omega)) ?_
                  refine WL_val rfl rfl rfl (R_assign rfl rfl) ?_
                  refine WL_nil ?_
                  refine WQshp (A := en :: G9) (A' := DH) pqD hG9.symm ?_
                  refine WQ_nextL (⟨y.i + 1, g2, z.h, u9.v, z.u, z.made, z.now, u9.LR, z.LP, z.LD, z.T, z.oT, z.cT, z.tT⟩) (⟨by dsimp only; omega, ug2, zh, ui, uR, zP, zD, zT, ztl, zmk, hre, (fun e => uc.trans (zc (by dsimp only at e; omega))), (fun e => ud.trans (ze (by dsimp only at e; omega)))⟩) (by dsimp only; omega) leZ (pqD)
                · refine WL_skip rfl rfl rfl ?_
                  refine WL_skip rfl rfl rfl ?_
                  refine WL_skip rfl rfl rfl ?_
                  refine WL_skip rfl rfl rfl ?_
                  refine WL_skip rfl rfl rfl ?_
                  refine WL_val rfl rfl rfl (R_pickF rfl rfl rfl) ?_
                  refine WL_nil ?_
                  refine WQ_code ?_
                  refine WC_F rfl ?_
                  refine WC_skip ?_
                  refine WQ_code ?_
                  refine WC_region ?_
                  refine WL_val rfl rfl rfl (R_move rfl rfl) ?_
                  refine WL_val rfl rfl rfl (R_add rfl rfl rfl (by omega)) ?_
                  refine WL_val rfl rfl rfl (R_assign rfl rfl) ?_
                  refine WL_nil ?_
                  refine WQshp (A := en :: G9) (A' := DH) pqD hG9.symm ?_
                  refine WQ_nextL (⟨y.i + 1, g2, z.h, u9.v, z.u, z.made, z.now, u9.LR, z.LP, z.LD, z.T, z.oT, z.cT, z.tT⟩) (⟨by dsimp only; omega, ug2, zh, ui, uR, zP, zD, zT, ztl, zmk, hre, (fun e => uc.trans (zc (by dsimp only at e; omega))), (fun e => ud.trans (ze (by dsimp only at e; omega)))⟩) (by dsimp only; omega) leZ (pqD)
              · obtain ⟨p1, p2, p3, hok, p5⟩ := ui.pop hre
                obtain ⟨ri, hri⟩ : ∃ ri : Nat, rr.id = ri := ⟨rr.id.toNat, by omega⟩
                unfold OkR at hok
                rw [hri, Int.toNat_natCast] at p3 p5 hok
                have hrl : ri ≤ z.made := by omega
                rw [hre, List.length_cons] at ukr
                obtain ⟨sp, hsp1, hsp⟩ := fP_at (L := z.LP) (i := ri) (by omega)
                refine WL_do rfl rfl rfl (D_call (k_next1 ug (ui.pcb (by omega)) hre) rfl rfl rfl rfl (pqD)) ?_
                rintro _ _ ⟨_, ⟨g2, o9, c9, tl9, ug2, own9, rfl, rfl⟩, rfl⟩
                refine WL_val rfl rfl rfl (R_move rfl rfl) ?_
                refine WL_val rfl rfl rfl (R_extract rfl rfl rfl) ?_
                refine WL_val rfl rfl rfl (R_extract rfl rfl rfl) ?_
                refine WL_do rfl rfl rfl (D_alloc rfl zv66) ?_
                rintro _ _ ⟨b13, rfl, rfl⟩
                refine WL_do0 rfl rfl (D_store (vs := [_, _, _]) rfl Try.sizeOf66 rfl rfl rfl rfl rfl (plD) (by exact Nat.le_of_ble_eq_true rfl)) ?_
                rintro _ _ rfl
                refine WL_val rfl rfl rfl (R_assign rfl rfl) ?_
                refine WL_nil ?_
                refine WQ_code ?_
                refine WC_seq ?_
                refine WC_seq ?_
                refine WC_region ?_
                refine WL_val rfl rfl rfl (R_move rfl rfl) ?_
                refine WL_val rfl rfl rfl (R_not rfl rfl) ?_
                refine WL_nil ?_
                refine WQ_code ?_
                refine WC_F rfl ?_
                refine WC_skip ?_
                refine WQ_code ?_
                refine WC_seq ?_
                refine WC_seq ?_
                refine WC_region ?_
                refine WL_val rfl rfl rfl (R_fieldAddr rfl fa66_0 rfl) ?_
                refine WL_val rfl rfl rfl (R_load rfl sc3 rfl (mmD) rfl) ?_
                refine WL_set (s := 217) (v := .int .i64 (ri : Int)) rfl (by rw [hri]) ?_
                refine WL_val rfl rfl rfl (R_lss rfl rfl rfl) ?_
                refine WL_set (s := 218) (v := .bool false) rfl (by exact congrArg Value.bool (decide_eq_false (by omega))) ?_
                refine WL_val rfl rfl rfl (R_move rfl rfl) ?_
                refine WL_val rfl rfl rfl (R_fieldAddr rfl fa66_0 rfl) ?_
                refine WL_val rfl rfl rfl (R_load rfl sc3 rfl (mmD) rfl) ?_
                refine WL_set (s := 221) (v := .int .i64 (ri : Int)) rfl (by rw [hri]) ?_
                refine WL_val rfl rfl rfl (R_move rfl rfl) ?_
                refine WL_val rfl rfl rfl (R_gtr rfl rfl rfl) ?_
                refine WL_set (s := 223) (v := .bool false) rfl (by exact congrArg Value.bool (decide_eq_false (by omega))) ?_
                refine WL_val rfl rfl rfl (R_pickF rfl rfl rfl) ?_
                refine WL_val rfl rfl rfl (R_move rfl rfl) ?_
                refine WL_val rfl rfl rfl (R_move rfl rfl) ?_
                refine WL_val rfl rfl rfl (R_fieldAddr rfl fa66_0 rfl) ?_
                refine WL_val rfl rfl rfl (R_load rfl sc3 rfl (mmD) rfl) ?_
                refine WL_set (s := 228) (v := .int .i64 (ri : Int)) rfl (by rw [hri]) ?_
                refine WL_val rfl rfl rfl (R_indexAddrN rfl Try.underlying36 Try.sizeOf3 rfl rfl (by omega)) ?_
                refine WL_val rfl rfl rfl (R_load (v := .int .i64 (fR u9.LR ri)) rfl sc3 rfl (mmD) (fm_get0 encI1 (fR_at (by omega)) (j := 0) (by omega))) ?_
                refine WL_val rfl rfl rfl (R_neq rfl rfl rfl) ?_
                refine WL_set (s := 231) (v := .bool false) rfl (by exact congrArg Value.bool (decide_eq_false (fun e => e p3))) ?_
                refine WL_val rfl rfl rfl (R_pickF rfl rfl rfl) ?_
                refine WL_nil ?_
                refine WQ_code ?_
                refine WC_F rfl ?_
                refine WC_skip ?_
                refine WQ_code ?_
                refine WC_seq ?_
                refine WC_region ?_
                refine WL_val rfl rfl rfl (R_move rfl rfl) ?_
                refine WL_val rfl rfl rfl (R_fieldAddr rfl fa66_0 rfl) ?_
                refine WL_val rfl rfl rfl (R_load rfl sc3 rfl (mmD) rfl) ?_
                refine WL_set (s := 235) (v := .int .i64 (ri : Int)) rfl (by rw [hri]) ?_
                refine WL_val rfl rfl rfl (R_indexAddrN rfl Try.underlying36 Try.sizeOf3 rfl rfl (by omega)) ?_
                refine WL_do0 rfl rfl (D_store (vs := [_]) rfl Try.sizeOf3 rfl rfl rfl rfl rfl (plD) (by exact fm_room0 encI1 (show ri < u9.LR.length by omega) (j := 0) (by omega))) ?_
                rintro _ _ rfl
                have hput3 := fm_put0 encI1 (1 : Int) (fR_at (L := u9.LR) (i := ri) (by omega)) (j := 0) (vs := [.int .i64 1]) (by simp) rfl (tl := [])
                rw [Nat.add_zero] at hput3
                rw [hput3]
                refine WL_nil ?_
                refine WQ_code ?_
                refine WC_seq ?_
                refine WC_draw _ [(0, true), (1, true), (2, true), (3, true), (4, true), (5, true), (6, true), (7, true), (8, true), (9, true), (10, true), (11, true), (12, true), (13, true), (14, true), (15, true), (16, true), (17, true), (18, true), (19, true), (20, true), (21, true), (22, true), (23, true), (24, true), (25, true), (26, true), (27, true), (28, true), (29, true), (30, true), (31, true), (32, true), (33, true), (34, true), (35, true), (36, true), (37, true), (38, true), (39, true), (40, true), (41, true), (42, true), (43, true), (44, true), (45, true), (46, true), (47, true)] followsMixed rfl rfl (by kernel_rfl) .all ?_
                rcases hok with ⟨hc0, hd0, hp0⟩ | ⟨hb0, hcc⟩
                · refine WM_val rfl rfl rfl rfl (R_fieldAddr rfl fa66_1 rfl) ?_
                  refine WM_val rfl rfl rfl rfl (R_load rfl sc24 rfl (mmD) rfl) ?_
                  refine WM_val rfl rfl rfl rfl (R_eql rfl rfl rfl) ?_
                  refine WM_set (s := 239) (v := .bool true) rfl (by exact congrArg Value.bool (decide_eq_true (hc0))) ?_
                  refine WM_val rfl rfl rfl rfl (R_move rfl rfl) ?_
                  refine WM_val rfl rfl rfl rfl (R_move rfl rfl) ?_
                  refine WM_val rfl rfl rfl rfl (R_fieldAddr rfl fa66_0 rfl) ?_
                  refine WM_val rfl rfl rfl rfl (R_load rfl sc3 rfl (mmD) rfl) ?_
                  refine WM_set (s := 243) (v := .int .i64 (ri : Int)) rfl (by rw [hri]) ?_
                  refine WM_val rfl rfl rfl rfl (R_indexAddrN rfl Try.underlying52 Try.sizeOf4 rfl rfl (by omega)) ?_
                  refine WM_val rfl rfl rfl rfl (R_load (v := .bool (fD z.LD ri)) rfl sc4 rfl (mmD) (fm_get0 encD1 (fD_at (by omega)) (j := 0) (by omega))) ?_
                  refine WM_set (s := 245) (v := .bool true) rfl (by rw [hd0]) ?_
                  refine WM_val rfl rfl rfl rfl (R_not rfl rfl) ?_
                  refine WM_val rfl rfl rfl rfl (R_move rfl rfl) ?_
                  refine WM_val rfl rfl rfl rfl (R_fieldAddr rfl fa66_2 rfl) ?_
                  refine WM_val rfl rfl rfl rfl (R_load rfl sc23 rfl (mmD) rfl) ?_
                  refine WM_val rfl rfl rfl rfl (R_byteStr rfl Try.underlying23 Try.underlying5 Try.underlying9 rfl (RdB.own own9) mmD) ?_
                  refine WM_val rfl rfl rfl rfl (R_move rfl rfl) ?_
                  refine WM_val rfl rfl rfl rfl (R_fieldAddr rfl fa66_0 rfl) ?_
                  refine WM_val rfl rfl rfl rfl (R_load rfl sc3 rfl (mmD) rfl) ?_
                  refine WM_set (s := 253) (v := .int .i64 (ri : Int)) rfl (by rw [hri]) ?_
                  refine WM_val rfl rfl rfl rfl (R_indexAddrN rfl Try.underlying51 Try.sizeOf9 rfl rfl (by omega)) ?_
                  refine WM_val rfl rfl rfl rfl (R_load (v := .string sp) rfl sc9 rfl (mmD) (fm_get0 encP1 hsp1 (j := 0) (by omega))) ?_
                  refine WM_val rfl rfl rfl rfl (R_strNe rfl Try.underlying9 rfl rfl) ?_
                  refine WM_set (s := 256) (v := .bool false) rfl (by exact congrArg Value.bool (decide_eq_false (fun e => e (by rw [byt_mk, ← hp0, hsp])))) ?_
                  refine WM_val rfl rfl rfl rfl (R_pickF rfl rfl rfl) ?_
                  refine WM_val rfl rfl rfl rfl (R_pickT rfl rfl rfl) ?_
                  refine WM_val rfl rfl rfl rfl (R_move rfl rfl) ?_
                  refine WM_val rfl rfl rfl rfl (R_fieldAddr rfl fa66_1 rfl) ?_
                  refine WM_val rfl rfl rfl rfl (R_load rfl sc24 rfl (mmD) rfl) ?_
                  refine WM_val rfl rfl rfl rfl (R_neq rfl rfl rfl) ?_
                  refine WM_set (s := 262) (v := .bool false) rfl (by exact congrArg Value.bool (decide_eq_false (fun e => e hc0))) ?_
                  refine WM_val rfl rfl rfl rfl (R_move rfl rfl) ?_
                  refine WM_skip rfl rfl rfl rfl ?_
                  refine WM_skip rfl rfl rfl rfl ?_
                  refine WM_skip rfl rfl rfl rfl ?_
                  refine WM_skip rfl rfl rfl rfl ?_
                  refine WM_skip rfl rfl rfl rfl ?_
                  refine WM_skip rfl rfl rfl rfl ?_
                  refine WM_skip rfl rfl rfl rfl ?_
                  refine WM_skip rfl rfl rfl rfl ?_
                  refine WM_skip rfl rfl rfl rfl ?_
                  refine WM_skip rfl rfl rfl rfl ?_
                  refine WM_skip rfl rfl rfl rfl ?_
                  refine WM_skip rfl rfl rfl rfl ?_
                  refine WM_skip rfl rfl rfl rfl ?_
                  refine WM_skip rfl rfl rfl rfl ?_
                  refine WM_skip rfl rfl rfl rfl ?_
                  refine WM_skip rfl rfl rfl rfl ?_
                  refine WM_skip rfl rfl rfl rfl ?_
                  refine WM_skip rfl rfl rfl rfl ?_
                  refine WM_skip rfl rfl rfl rfl ?_
                  refine WM_val rfl rfl rfl rfl (R_pickF rfl rfl rfl) ?_
                  refine WM_val rfl rfl rfl rfl (R_pickF rfl rfl rfl) ?_
                  refine WM_nil ?_
                  refine WQ_code ?_
                  refine WC_F rfl ?_
                  refine WC_skip ?_
                  refine WQ_code ?_
                  refine WC_region ?_
                  refine WL_val rfl rfl rfl (R_move rfl rfl) ?_
                  refine WL_val rfl rfl rfl (R_add rfl rfl rfl (by omega)) ?_
                  refine WL_val rfl rfl rfl (R_assign rfl rfl) ?_
                  refine WL_nil ?_
                  refine WQ_nextF (⟨u9.k + 1, g2, { u9.v with res := rest }, u9.LR.set ri 1⟩) (⟨by dsimp only; omega, ug2, (by dsimp only; rw [fR_set (by omega)]; exact p5), (by dsimp only; rw [List.length_set]; exact uR), uc, ud⟩) (by dsimp only; omega) leZ (psZ) rfl (pqD)
                · refine WM_val rfl rfl rfl rfl (R_fieldAddr rfl fa66_1 rfl) ?_
                  rcases hcc with hcc | hcc | hcc
                  · refine WM_val rfl rfl rfl rfl (R_load rfl sc24 rfl (mmD) rfl) ?_
                    refine WM_val rfl rfl rfl rfl (R_eql rfl rfl rfl) ?_
                    refine WM_set (s := 239) (v := .bool false) rfl (by exact congrArg Value.bool (decide_eq_false (by omega))) ?_
                    refine WM_val rfl rfl rfl rfl (R_move rfl rfl) ?_
                    refine WM_skip rfl rfl rfl rfl ?_
                    refine WM_skip rfl rfl rfl rfl ?_
                    refine WM_skip rfl rfl rfl rfl ?_
                    refine WM_skip rfl rfl rfl rfl ?_
                    refine WM_skip rfl rfl rfl rfl ?_
                    refine WM_skip rfl rfl rfl rfl ?_
                    refine WM_skip rfl rfl rfl rfl ?_
                    refine WM_skip rfl rfl rfl rfl ?_
                    refine WM_skip rfl rfl rfl rfl ?_
                    refine WM_skip rfl rfl rfl rfl ?_
                    refine WM_skip rfl rfl rfl rfl ?_
                    refine WM_skip rfl rfl rfl rfl ?_
                    refine WM_skip rfl rfl rfl rfl ?_
                    refine WM_skip rfl rfl rfl rfl ?_
                    refine WM_skip rfl rfl rfl rfl ?_
                    refine WM_skip rfl rfl rfl rfl ?_
                    refine WM_skip rfl rfl rfl rfl ?_
                    refine WM_val rfl rfl rfl rfl (R_pickF rfl rfl rfl) ?_
                    refine WM_val rfl rfl rfl rfl (R_move rfl rfl) ?_
                    refine WM_val rfl rfl rfl rfl (R_fieldAddr rfl fa66_1 rfl) ?_
                    refine WM_val rfl rfl rfl rfl (R_load rfl sc24 rfl (mmD) rfl) ?_
                    refine WM_val rfl rfl rfl rfl (R_neq rfl rfl rfl) ?_
                    refine WM_set (s := 262) (v := .bool true) rfl (by exact congrArg Value.bool (decide_eq_true (by omega))) ?_
                    refine WM_val rfl rfl rfl rfl (R_move rfl rfl) ?_
                    refine WM_val rfl rfl rfl rfl (R_fieldAddr rfl fa66_2 rfl) ?_
                    refine WM_val rfl rfl rfl rfl (R_load rfl sc23 rfl (mmD) rfl) ?_
                    refine WM_val rfl rfl rfl rfl (R_len rfl Try.underlying23 rfl) ?_
                    refine WM_val rfl rfl rfl rfl (R_neq rfl rfl rfl) ?_
                    refine WM_set (s := 267) (v := .bool false) rfl (by exact congrArg Value.bool (decide_eq_false (fun e => e (by rw [hb0]; rfl)))) ?_
                    refine WM_val rfl rfl rfl rfl (R_move rfl rfl) ?_
                    refine WM_val rfl rfl rfl rfl (R_fieldAddr rfl fa66_1 rfl) ?_
                    refine WM_val rfl rfl rfl rfl (R_load rfl sc24 rfl (mmD) rfl) ?_
                    refine WM_val rfl rfl rfl rfl (R_neq rfl rfl rfl) ?_
                    refine WM_set (s := 271) (v := .bool false) rfl (by exact congrArg Value.bool (decide_eq_false (fun e => e hcc))) ?_
                    refine WM_val rfl rfl rfl rfl (R_move rfl rfl) ?_
                    refine WM_skip rfl rfl rfl rfl ?_
                    refine WM_skip rfl rfl rfl rfl ?_
                    refine WM_skip rfl rfl rfl rfl ?_
                    refine WM_val rfl rfl rfl rfl (R_pickF rfl rfl rfl) ?_
                    refine WM_val rfl rfl rfl rfl (R_move rfl rfl) ?_
                    refine WM_skip rfl rfl rfl rfl ?_
                    refine WM_skip rfl rfl rfl rfl ?_
                    refine WM_skip rfl rfl rfl rfl ?_
                    refine WM_val rfl rfl rfl rfl (R_pickF rfl rfl rfl) ?_
                    refine WM_val rfl rfl rfl rfl (R_pickF rfl rfl rfl) ?_
                    refine WM_val rfl rfl rfl rfl (R_pickT rfl rfl rfl) ?_
                    refine WM_val rfl rfl rfl rfl (R_pickF rfl rfl rfl) ?_
                    refine WM_nil ?_
                    refine WQ_code ?_
                    refine WC_F rfl ?_
                    refine WC_skip ?_
                    refine WQ_code ?_
                    refine WC_region ?_
                    refine WL_val rfl rfl rfl (R_move rfl rfl) ?_
                    refine WL_val rfl rfl rfl (R_add rfl rfl rfl (by omega)) ?_
                    refine WL_val rfl rfl rfl (R_assign rfl rfl) ?_
                    refine WL_nil ?_
                    refine WQ_nextF (⟨u9.k + 1, g2, { u9.v with res := rest }, u9.LR.set ri 1⟩) (⟨by dsimp only; omega, ug2, (by dsimp only; rw [fR_set (by omega)]; exact p5), (by dsimp only; rw [List.length_set]; exact uR), uc, ud⟩) (by dsimp only; omega) leZ (psZ) rfl (pqD)
                  · refine WM_val rfl rfl rfl rfl (R_load rfl sc24 rfl (mmD) rfl) ?_
                    refine WM_val rfl rfl rfl rfl (R_eql rfl rfl rfl) ?_
                    refine WM_set (s := 239) (v := .bool false) rfl (by exact congrArg Value.bool (decide_eq_false (by omega))) ?_
                    refine WM_val rfl rfl rfl rfl (R_move rfl rfl) ?_
                    refine WM_skip rfl rfl rfl rfl ?_
                    refine WM_skip rfl rfl rfl rfl ?_
                    refine WM_skip rfl rfl rfl rfl ?_
                    refine WM_skip rfl rfl rfl rfl ?_
                    refine WM_skip rfl rfl rfl rfl ?_
                    refine WM_skip rfl rfl rfl rfl ?_
                    refine WM_skip rfl rfl rfl rfl ?_
                    refine WM_skip rfl rfl rfl rfl ?_
                    refine WM_skip rfl rfl rfl rfl ?_
                    refine WM_skip rfl rfl rfl rfl ?_
                    refine WM_skip rfl rfl rfl rfl ?_
                    refine WM_skip rfl rfl rfl rfl ?_
                    refine WM_skip rfl rfl rfl rfl ?_
                    refine WM_skip rfl rfl rfl rfl ?_
                    refine WM_skip rfl rfl rfl rfl ?_
                    refine WM_skip rfl rfl rfl rfl ?_
                    refine WM_skip rfl rfl rfl rfl ?_
                    refine WM_val rfl rfl rfl rfl (R_pickF rfl rfl rfl) ?_
                    refine WM_val rfl rfl rfl rfl (R_move rfl rfl) ?_
                    refine WM_val rfl rfl rfl rfl (R_fieldAddr rfl fa66_1 rfl) ?_
                    refine WM_val rfl rfl rfl rfl (R_load rfl sc24 rfl (mmD) rfl) ?_
                    refine WM_val rfl rfl rfl rfl (R_neq rfl rfl rfl) ?_
                    refine WM_set (s := 262) (v := .bool true) rfl (by exact congrArg Value.bool (decide_eq_true (by omega))) ?_
                    refine WM_val rfl rfl rfl rfl (R_move rfl rfl) ?_
                    refine WM_val rfl rfl rfl rfl (R_fieldAddr rfl fa66_2 rfl) ?_
                    refine WM_val rfl rfl rfl rfl (R_load rfl sc23 rfl (mmD) rfl) ?_
                    refine WM_val rfl rfl rfl rfl (R_len rfl Try.underlying23 rfl) ?_
                    refine WM_val rfl rfl rfl rfl (R_neq rfl rfl rfl) ?_
                    refine WM_set (s := 267) (v := .bool false) rfl (by exact congrArg Value.bool (decide_eq_false (fun e => e (by rw [hb0]; rfl)))) ?_
                    refine WM_val rfl rfl rfl rfl (R_move rfl rfl) ?_
                    refine WM_val rfl rfl rfl rfl (R_fieldAddr rfl fa66_1 rfl) ?_
                    refine WM_val rfl rfl rfl rfl (R_load rfl sc24 rfl (mmD) rfl) ?_
                    refine WM_val rfl rfl rfl rfl (R_neq rfl rfl rfl) ?_
                    refine WM_set (s := 271) (v := .bool true) rfl (by exact congrArg Value.bool (decide_eq_true (by omega))) ?_
                    refine WM_val rfl rfl rfl rfl (R_move rfl rfl) ?_
                    refine WM_val rfl rfl rfl rfl (R_fieldAddr rfl fa66_1 rfl) ?_
                    refine WM_val rfl rfl rfl rfl (R_load rfl sc24 rfl (mmD) rfl) ?_
                    refine WM_val rfl rfl rfl rfl (R_neq rfl rfl rfl) ?_
                    refine WM_set (s := 275) (v := .bool false) rfl (by exact congrArg Value.bool (decide_eq_false (fun e => e hcc))) ?_
                    refine WM_val rfl rfl rfl rfl (R_pickT rfl rfl rfl) ?_
                    refine WM_val rfl rfl rfl rfl (R_move rfl rfl) ?_
                    refine WM_skip rfl rfl rfl rfl ?_
                    refine WM_skip rfl rfl rfl rfl ?_
                    refine WM_skip rfl rfl rfl rfl ?_
                    refine WM_val rfl rfl rfl rfl (R_pickF rfl rfl rfl) ?_
                    refine WM_val rfl rfl rfl rfl (R_pickF rfl rfl rfl) ?_
                    refine WM_val rfl rfl rfl rfl (R_pickT rfl rfl rfl) ?_
                    refine WM_val rfl rfl rfl rfl (R_pickF rfl rfl rfl) ?_
                    refine WM_nil ?_
                    refine WQ_code ?_
                    refine WC_F rfl ?_
                    refine WC_skip ?_
                    refine WQ_code ?_
                    refine WC_region ?_
                    refine WL_val rfl rfl rfl (R_move rfl rfl) ?_
                    refine WL_val rfl rfl rfl (R_add rfl rfl rfl (by omega)) ?_
                    refine WL_val rfl rfl rfl (R_assign rfl rfl) ?_
                    refine WL_nil ?_
                    refine WQ_nextF (⟨u9.k + 1, g2, { u9.v with res := rest }, u9.LR.set ri 1⟩) (⟨by dsimp only; omega, ug2, (by dsimp only; rw [fR_set (by omega)]; exact p5), (by dsimp only; rw [List.length_set]; exact uR), uc, ud⟩) (by dsimp only; omega) leZ (psZ) rfl (pqD)
                  · refine WM_val rfl rfl rfl rfl (R_load rfl sc24 rfl (mmD) rfl) ?_
                    refine WM_val rfl rfl rfl rfl (R_eql rfl rfl rfl) ?_
                    refine WM_set (s := 239) (v := .bool false) rfl (by exact congrArg Value.bool (decide_eq_false (by omega))) ?_
                    refine WM_val rfl rfl rfl rfl (R_move rfl rfl) ?_
                    refine WM_skip rfl rfl rfl rfl ?_
                    refine WM_skip rfl rfl rfl rfl ?_
                    refine WM_skip rfl rfl rfl rfl ?_
                    refine WM_skip rfl rfl rfl rfl ?_
                    refine WM_skip rfl rfl rfl rfl ?_
                    refine WM_skip rfl rfl rfl rfl ?_
                    refine WM_skip rfl rfl rfl rfl ?_
                    refine WM_skip rfl rfl rfl rfl ?_
                    refine WM_skip rfl rfl rfl rfl ?_
                    refine WM_skip rfl rfl rfl rfl ?_
                    refine WM_skip rfl rfl rfl rfl ?_
                    refine WM_skip rfl rfl rfl rfl ?_
                    refine WM_skip rfl rfl rfl rfl ?_
                    refine WM_skip rfl rfl rfl rfl ?_
                    refine WM_skip rfl rfl rfl rfl ?_
                    refine WM_skip rfl rfl rfl rfl ?_
                    refine WM_skip rfl rfl rfl rfl ?_
                    refine WM_val rfl rfl rfl rfl (R_pickF rfl rfl rfl) ?_
                    refine WM_val rfl rfl rfl rfl (R_move rfl rfl) ?_
                    refine WM_val rfl rfl rfl rfl (R_fieldAddr rfl fa66_1 rfl) ?_
                    refine WM_val rfl rfl rfl rfl (R_load rfl sc24 rfl (mmD) rfl) ?_
                    refine WM_val rfl rfl rfl rfl (R_neq rfl rfl rfl) ?_
                    refine WM_set (s := 262) (v := .bool true) rfl (by exact congrArg Value.bool (decide_eq_true (by omega))) ?_
                    refine WM_val rfl rfl rfl rfl (R_move rfl rfl) ?_
                    refine WM_val rfl rfl rfl rfl (R_fieldAddr rfl fa66_2 rfl) ?_
                    refine WM_val rfl rfl rfl rfl (R_load rfl sc23 rfl (mmD) rfl) ?_
                    refine WM_val rfl rfl rfl rfl (R_len rfl Try.underlying23 rfl) ?_
                    refine WM_val rfl rfl rfl rfl (R_neq rfl rfl rfl) ?_
                    refine WM_set (s := 267) (v := .bool false) rfl (by exact congrArg Value.bool (decide_eq_false (fun e => e (by rw [hb0]; rfl)))) ?_
                    refine WM_val rfl rfl rfl rfl (R_move rfl rfl) ?_
                    refine WM_val rfl rfl rfl rfl (R_fieldAddr rfl fa66_1 rfl) ?_
                    refine WM_val rfl rfl rfl rfl (R_load rfl sc24 rfl (mmD) rfl) ?_
                    refine WM_val rfl rfl rfl rfl (R_neq rfl rfl rfl) ?_
                    refine WM_set (s := 271) (v := .bool true) rfl (by exact congrArg Value.bool (decide_eq_true (by omega))) ?_
                    refine WM_val rfl rfl rfl rfl (R_move rfl rfl) ?_
                    refine WM_val rfl rfl rfl rfl (R_fieldAddr rfl fa66_1 rfl) ?_
                    refine WM_val rfl rfl rfl rfl (R_load rfl sc24 rfl (mmD) rfl) ?_
                    refine WM_val rfl rfl rfl rfl (R_neq rfl rfl rfl) ?_
                    refine WM_set (s := 275) (v := .bool true) rfl (by exact congrArg Value.bool (decide_eq_true (by omega))) ?_
                    refine WM_val rfl rfl rfl rfl (R_pickT rfl rfl rfl) ?_
                    refine WM_val rfl rfl rfl rfl (R_move rfl rfl) ?_
                    refine WM_val rfl rfl rfl rfl (R_fieldAddr rfl fa66_1 rfl) ?_
                    refine WM_val rfl rfl rfl rfl (R_load rfl sc24 rfl (mmD) rfl) ?_
                    refine WM_val rfl rfl rfl rfl (R_neq rfl rfl rfl) ?_
                    refine WM_set (s := 280) (v := .bool false) rfl (by exact congrArg Value.bool (decide_eq_false (fun e => e hcc))) ?_
                    refine WM_val rfl rfl rfl rfl (R_pickT rfl rfl rfl) ?_
                    refine WM_val rfl rfl rfl rfl (R_pickF rfl rfl rfl) ?_
                    refine WM_val rfl rfl rfl rfl (R_pickT rfl rfl rfl) ?_
                    refine WM_val rfl rfl rfl rfl (R_pickF rfl rfl rfl) ?_
                    refine WM_nil ?_
                    refine WQ_code ?_
                    refine WC_F rfl ?_
                    refine WC_skip ?_
                    refine WQ_code ?_
                    refine WC_region ?_
                    refine WL_val rfl rfl rfl (R_move rfl rfl) ?_
                    refine WL_val rfl rfl rfl (R_add rfl rfl rfl (by omega)) ?_
                    refine WL_val rfl rfl rfl (R_assign rfl rfl) ?_
                    refine WL_nil ?_
                    refine WQ_nextF (⟨u9.k + 1, g2, { u9.v with res := rest }, u9.LR.set ri 1⟩) (⟨by dsimp only; omega, ug2, (by dsimp only; rw [fR_set (by omega)]; exact p5), (by dsimp only; rw [List.length_set]; exact uR), uc, ud⟩) (by dsimp only; omega) leZ (psZ) rfl (pqD)
            · have hre : u9.v.res = [] := List.eq_nil_of_length_eq_zero (by omega)
              refine WC_exit ?_
              refine WQ_code ?_
              refine WC_seq ?_
              refine WC_region ?_
              refine WL_val rfl rfl rfl (R_move rfl rfl) ?_
              refine WL_val rfl rfl rfl (R_move rfl rfl) ?_
              refine WL_val rfl rfl rfl (R_len rfl Try.underlying50 rfl) ?_
              refine WL_val rfl rfl rfl (R_lss rfl rfl rfl) ?_
              refine WL_set (s := 288) (v := .bool true) rfl (by exact congrArg Value.bool (decide_eq_true (by omega))) ?_
              refine WL_val rfl rfl rfl (R_move rfl rfl) ?_
              refine WL_val rfl rfl rfl (R_fieldAddr rfl fa54_0 rfl) ?_
              refine WL_val rfl rfl rfl (R_load rfl sc3 rfl (mmD) rfl) ?_
              refine WL_val rfl rfl rfl (R_neq rfl rfl rfl) ?_
              refine WL_val rfl rfl rfl (R_pickT rfl rfl rfl) ?_
              refine WL_val rfl rfl rfl (R_move rfl rfl) ?_
              refine WL_splitD (s := 294) rfl (fun c14 => ?_) (fun c14 => ?_)
              · refine WL_val rfl rfl rfl (R_move rfl rfl) ?_
                refine WL_do rfl rfl rfl (D_call (k_open ug (ui.pcb (by omega))) rfl rfl rfl rfl (pqD)) ?_
                rintro _ _ ⟨_, ⟨oq, cq, tq, rfl, ownq, rfl⟩, rfl⟩
                refine WL_val rfl rfl rfl (R_len rfl Try.underlying36 rfl) ?_
                refine WL_val rfl rfl rfl (R_move rfl rfl) ?_
                refine WL_val rfl rfl rfl (R_gtr rfl rfl rfl) ?_
                refine WL_set (s := 299) (v := .bool false) rfl (by exact congrArg Value.bool (decide_eq_false (by have := ui.ci.len; rw [List.length_map]; omega))) ?_
                refine WL_val rfl rfl rfl (R_pickT rfl rfl rfl) ?_
                refine WL_nil ?_
                refine WQ_code ?_
                refine WC_F rfl ?_
                refine WC_skip ?_
                refine WQ_code ?_
                refine WC_region ?_
                refine WL_val rfl rfl rfl (R_move rfl rfl) ?_
                refine WL_val rfl rfl rfl (R_add rfl rfl rfl (by omega)) ?_
                refine WL_val rfl rfl rfl (R_assign rfl rfl) ?_
                refine WL_nil ?_
                refine WQshp (A := en :: G9) (A' := DH) pqD hG9.symm ?_
                refine WQ_nextL (⟨y.i + 1, u9.g, z.h, u9.v, z.u, z.made, z.now, u9.LR, z.LP, z.LD, z.T, z.oT, z.cT, z.tT⟩) (⟨by dsimp only; omega, ug, zh, ui, uR, zP, zD, zT, ztl, zmk, hre, (fun e => uc.trans (zc (by dsimp only at e; omega))), (fun e => ud.trans (ze (by dsimp only at e; omega)))⟩) (by dsimp only; omega) leZ (pqD)
              · refine WL_skip rfl rfl rfl ?_
                refine WL_skip rfl rfl rfl ?_
                refine WL_skip rfl rfl rfl ?_
                refine WL_skip rfl rfl rfl ?_
                refine WL_skip rfl rfl rfl ?_
                refine WL_val rfl rfl rfl (R_pickF rfl rfl rfl) ?_
                refine WL_nil ?_
                refine WQ_code ?_
                refine WC_F rfl ?_
                refine WC_skip ?_
                refine WQ_code ?_
                refine WC_region ?_
                refine WL_val rfl rfl rfl (R_move rfl rfl) ?_
                refine WL_val rfl rfl rfl (R_add rfl rfl rfl (by omega)) ?_
                refine WL_val rfl rfl rfl (R_assign rfl rfl) ?_
                refine WL_nil ?_
                refine WQshp (A := en :: G9) (A' := DH) pqD hG9.symm ?_
                refine WQ_nextL (⟨y.i + 1, u9.g, z.h, u9.v, z.u, z.made, z.now, u9.LR, z.LP, z.LD, z.T, z.oT, z.cT, z.tT⟩) (⟨by dsimp only; omega, ug, zh, ui, uR, zP, zD, zT, ztl, zmk, hre, (fun e => uc.trans (zc (by dsimp only at e; omega))), (fun e => ud.trans (ze (by dsimp only at e; omega)))⟩) (by dsimp only; omega) leZ (pqD)
  · have hce9 := hce (by omega)
    have hmn9 := hi.mn
    refine WC_exit ?_
    refine WQ_code ?_
    refine WC_seq ?_
    refine WC_seq ?_
    refine WC_region ?_
    refine WL_val rfl rfl rfl (R_assign rfl rfl) ?_
    refine WL_nil ?_
    refine WQ_code ?_
    refine WC_block ?_
    refine WC_loopF (G := HoD2) [2, 27, 301, 302, 303, 304, 305, 306, 307, 308, 309, 310] (fun q => 1 ≤ q.i ∧ q.i ≤ y.made + 1) (fun q => [(27, .int .i64 (q.i : Int))]) (fun q => []) (fun q => y.made + 1 - q.i) (⟨1⟩) (⟨Nat.le_refl _, by dsimp only; omega⟩) leZ (pqD) ?_
    rintro q ⟨hq1, hq2⟩
    refine WC_seq ?_
    refine WC_seq ?_
    refine WC_region ?_
    refine WL_val rfl rfl rfl (R_move rfl rfl) ?_
    refine WL_val rfl rfl rfl (R_move rfl rfl) ?_
    refine WL_val rfl rfl rfl (R_leq rfl rfl rfl) ?_
    refine WL_nil ?_
    refine WQ_code ?_
    refine WC_dec rfl (fun c15 => ?_) (fun c15 => ?_)
    · refine WC_skip ?_
      refine WQ_code ?_
      refine WC_seq ?_
      refine WC_block ?_
      refine WC_seq ?_
      refine WC_region ?_
      refine WL_val rfl rfl rfl (R_move rfl rfl) ?_
      refine WL_val rfl rfl rfl (R_move rfl rfl) ?_
      refine WL_val rfl rfl rfl (R_indexAddrN rfl Try.underlying36 Try.sizeOf3 rfl rfl (by omega)) ?_
      refine WL_val rfl rfl rfl (R_load (v := .int .i64 (fR y.LR q.i)) rfl sc3 rfl (mmD) (fm_get0 encI1 (fR_at (by omega)) (j := 0) (by omega))) ?_
      refine WL_val rfl rfl rfl (R_neq rfl rfl rfl) ?_
      refine WL_set (s := 310) (v := .bool false) rfl (by exact congrArg Value.bool (decide_eq_false (fun e => e (hi.fin hce9 hres (by omega) (by omega))))) ?_
      refine WL_nil ?_
      refine WQ_code ?_
      refine WC_F rfl ?_
      refine WC_skip ?_
      refine WQ_code ?_
      refine WC_region ?_
      refine WL_val rfl rfl rfl (R_move rfl rfl) ?_
      refine WL_val rfl rfl rfl (R_add rfl rfl rfl (by omega)) ?_
      refine WL_val rfl rfl rfl (R_assign rfl rfl) ?_
      refine WL_nil ?_
      refine WQ_nextF (⟨q.i + 1⟩) (⟨by dsimp only; omega, by dsimp only; omega⟩) (by dsimp only; omega) leZ (psZ) rfl (pqD)
    · refine WC_exit ?_
      refine WQ_code ?_
      refine WC_seq ?_
      refine WC_region ?_
      refine WL_val rfl rfl rfl (R_move rfl rfl) ?_
      refine WL_do rfl rfl rfl (D_call (k_open hg (hi.pcb (by omega))) rfl rfl rfl rfl (pqD)) ?_
      rintro _ _ ⟨_, ⟨oq, cq, tq, rfl, ownq, rfl⟩, rfl⟩
      refine WL_val rfl rfl rfl (R_len rfl Try.underlying36 rfl) ?_
      refine WL_val rfl rfl rfl (R_eql rfl rfl rfl) ?_
      refine WL_set (s := 314) (v := .bool true) rfl (by exact congrArg Value.bool (decide_eq_true (by rw [hce9]; rfl))) ?_
      refine WL_val rfl rfl rfl (R_move rfl rfl) ?_
      refine WL_do rfl rfl rfl (D_call (known_ok) rfl rfl rfl rfl (pqD)) ?_
      rintro _ _ ⟨_, ⟨rfl, rfl⟩, rfl⟩
      refine WL_val rfl rfl rfl (R_pickT rfl rfl rfl) ?_
      refine WL_val rfl rfl rfl (R_assign rfl rfl) ?_
      refine WL_nil ?_
      refine WQ_code ?_
      refine WC_ret ?_
      refine WQ_ret rfl rfl (.cons (.tmp rfl) .nil) rfl (by
          exact ⟨rfl, rfl⟩) (pqD)
theorem holds_big (l : List Mv) (hl : l.length ≤ 9223372036854775807) (ol : Option Addr) (cl9 : Nat) (DH : Heap) (h40 : 40 < l.length) : Spec Try.prog 4 [.slice ol l.length cl9] DH (fun r H' => r = .bool true ∧ H' = DH) := by
  refine Spec.of (E := [(0, .slice ol l.length cl9)]) Try.func4 rfl (by kernel_rfl) Try.ntmps4 rfl rfl (fun w => ?_)
  refine WC_seq ?_
  refine WC_region ?_
  refine WL_val rfl rfl rfl (R_assign rfl rfl) ?_
  refine WL_nil ?_
  refine WQ_code ?_
  refine WC_seq ?_
  refine WC_seq ?_
  refine WC_region ?_
  refine WL_val rfl rfl rfl (R_move rfl rfl) ?_
  refine WL_val rfl rfl rfl (R_len rfl Try.underlying50 rfl) ?_
  refine WL_val rfl rfl rfl (R_gtr rfl rfl rfl) ?_
  refine WL_nil ?_
  refine WQ_code ?_
  refine WC_dT rfl (by omega) ?_
  refine WC_seq ?_
  refine WC_region ?_
  refine WL_do rfl rfl rfl (D_call (known_ok) rfl rfl rfl rfl (pqD)) ?_
  rintro _ _ ⟨_, ⟨rfl, rfl⟩, rfl⟩
  refine WL_val rfl rfl rfl (R_assign rfl rfl) ?_
  refine WL_nil ?_
  refine WQ_code ?_
  refine WC_ret ?_
  refine WQ_ret rfl rfl (.cons (.tmp rfl) .nil) rfl (by
      exact ⟨rfl, rfl⟩) (pqD)
end Go.Proofs.Ytdelhikejgoffaa
end
section
set_option linter.unusedVariables false
set_option maxRecDepth 20000
set_option maxHeartbeats 1000000
namespace Go.Proofs.Ytdelhikejgoffaa
theorem holds_ok (l : List Mv) (hl : l.length ≤ 9223372036854775807) {ol : Option Addr} {cl9 : Nat} (DH : Heap) (hdat : ∀ m ∈ l, ∃ en ∈ DH, RdB m.oa en m.data) (hsz : ∀ m ∈ l, m.data.length ≤ 9223372036854775807) (hlst : 0 < l.length → ∃ b k cs e fr, ol = some ⟨b, k, none⟩ ∧ (⟨some b, .cells (List.toArray cs) e fr⟩ : Ent) ∈ DH ∧ ∀ (i : Nat) (m : Mv), l[i]? = some m → At cs (k + i * 3) (encMv m)) : Spec Try.prog 4 [.slice ol l.length cl9] DH (fun r H' => r = .bool true ∧ H' = DH) := by
  by_cases h40 : 40 < l.length
  · exact holds_big l hl ol cl9 DH h40
  · exact holds_do l hl DH hdat hsz hlst h40
theorem dedup {W : World} : ∀ es : List Ent, (∀ e ∈ es, e.ok W) → ∃ DH, HOK DH W ∧ ∀ e ∈ es, e ∈ DH
  | [], _ => ⟨[], ⟨by simp [keys], fun x hx => by cases hx⟩, fun e he => by cases he⟩
  | e :: es, h => by
    obtain ⟨DH, hok, hall⟩ := dedup es fun x hx => h x (List.mem_cons_of_mem _ hx)
    have he := h e (List.mem_cons_self ..)
    by_cases hm : e ∈ DH
    · exact ⟨DH, hok, fun x hx => by rcases List.mem_cons.1 hx with rfl | hx; exact hm; exact hall x hx⟩
    · refine ⟨e :: DH, ⟨?_, fun x hx => by rcases List.mem_cons.1 hx with rfl | hx; exact he; exact hok.ok x hx⟩, fun x hx => by rcases List.mem_cons.1 hx with rfl | hx; exact List.mem_cons_self ..; exact List.mem_cons_of_mem _ (hall x hx)⟩
      cases hb : e.b with
      | none => unfold keys; rw [List.filterMap_cons, hb]; exact hok.nodup
      | some b =>
        unfold keys
        rw [List.filterMap_cons, hb]
        refine List.nodup_cons.2 ⟨fun hk => hm ?_, hok.nodup⟩
        obtain ⟨x, hx, hxb⟩ := mem_keys.1 hk
        have h1 := hok.ok x hx
        have h2 := he
        simp only [Ent.ok, hxb] at h1
        simp only [Ent.ok, hb] at h2
        rw [h1] at h2
        have e1 : x.o = e.o := Option.some.inj h2
        have e2 : x = e := by cases x; cases e; simp only at hb hxb e1; rw [hb, hxb, e1]
        exact e2 ▸ hx
end Go.Proofs.Ytdelhikejgoffaa
end
section
set_option linter.unusedVariables false
set_option maxRecDepth 20000
namespace Go.Proofs.Ytdelhikejgoffaa
open Go.ChangeShapes Go.WideShapes Go.ChangeAt Go.RowKit Go.Joins Go.Deep
theorem decM0 {H : Type} {enc : TypeId × Value → H} {W : World} {sp : Nat → Bool} {held : Bool} (m : Nat) (cs : List Value) (y : DataW H × List MemPlace) (h : DataW.trod enc Try.prog W 0 sp held m 54 cs = some y) :
    ∃ (x0 : Int) (x1 : Int) (oa2 : Option Addr) (en2 : Ent) (l2 : List UInt8) (c2 : Nat), cs = [.int .i64 x0, .int .i64 x1, .slice oa2 l2.length c2] ∧ (Lit.int .i64 x0).wf = true ∧ (Lit.int .i64 x1).wf = true ∧ Arg oa2 en2 1 encY l2 ∧ en2.ok W ∧ l2.length ≤ maxLen ∧ (∀ y ∈ l2, (fun _ => True) y) ∧ True := by
  have hl : cs.length = 3 := (trod_len Try.underlying54 h).trans (by kernel_rfl)
  have s3 : Try.prog.cellsOf 3 = 1 := by kernel_rfl
  have s23 : Try.prog.cellsOf 23 = 1 := by kernel_rfl
  obtain ⟨ng0, yg0, g0⟩ := trod_fld Try.underlying54 h (i := 0) rfl
  obtain ⟨x0, e0, _, w0⟩ := DataW.trod_int Try.underlying3 g0
  have e0 : (cs.drop 0).take (Try.prog.cellsOf 3) = [.int .i64 x0] := e0
  simp only [s3] at e0
  have k0 : cs.drop 0 = .int .i64 x0 :: cs.drop 1 := drop_cons e0
  obtain ⟨ng1, yg1, g1⟩ := trod_fld Try.underlying54 h (i := 1) rfl
  obtain ⟨x1, e1, _, w1⟩ := DataW.trod_int Try.underlying3 g1
  have e1 : (cs.drop 1).take (Try.prog.cellsOf 3) = [.int .i64 x1] := e1
  simp only [s3] at e1
  have k1 : cs.drop 1 = .int .i64 x1 :: cs.drop 2 := drop_cons e1
  obtain ⟨ng2, yg2, g2⟩ := trod_fld Try.underlying54 h (i := 2) rfl
  obtain ⟨oa2, en2, l2, c2, e2, ha2, ho2, hb2, hg2⟩ := open_argT (enc' := encY) (G := fun _ => True) (sz := 1) Try.underlying23 (by kernel_rfl) (by omega) (fun m cs y h => decB m cs y h) g2
  have e2 : (cs.drop 2).take (Try.prog.cellsOf 23) = [.slice oa2 l2.length c2] := e2
  simp only [s23] at e2
  have k2 : cs.drop 2 = .slice oa2 l2.length c2 :: cs.drop 3 := drop_cons e2
  exact ⟨x0, x1, oa2, en2, l2, c2, (List.drop_zero (l := cs)).symm.trans (k0.trans (congrArg (List.cons _) (k1.trans (congrArg (List.cons _) (k2.trans (congrArg (List.cons _) (List.drop_eq_nil_of_le (by omega)))))))), w0, w1, ha2, ho2, hb2, hg2, trivial⟩
theorem decMv {H : Type} {enc : TypeId × Value → H} {W : World} {sp : Nat → Bool} {held : Bool} (m : Nat) (cs : List Value) (y : DataW H × List MemPlace) (h : DataW.trod enc Try.prog W 0 sp held m 54 cs = some y) : ∃ x : Mv, cs = encMv x ∧ (Arg x.oa x.en 1 encY x.data ∧ x.en.ok W ∧ x.data.length ≤ maxLen) := by
  obtain ⟨what, n, oa, en, l, c, rfl, _, _, h1, h2, h3, _⟩ := decM0 m cs y h
  exact ⟨⟨what, n, oa, en, c, l⟩, rfl, h1, h2, h3⟩
end Go.Proofs.Ytdelhikejgoffaa
end
