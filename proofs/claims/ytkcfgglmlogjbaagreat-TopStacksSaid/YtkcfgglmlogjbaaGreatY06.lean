/-
  Top (TopStacks), part RowTA: contracts of functions that the laws call, each for the heap it names.
-/
import Derived.Test.YtkcfgglmlogjbaaGreatY05
import Derived.Test.YtkcfgglmlogjbaaGreatRows
section
set_option linter.unusedVariables false
set_option maxRecDepth 20000
set_option maxHeartbeats 8000000
namespace Go.Proofs.YtkcfgglmlogjbaaGreat
theorem stacked_z (L : List Pt) {ol : Option Addr} {cl9 : Nat} (win : Nat) (hw : 1 ≤ win ∧ win ≤ 4096) (Z : Bs) {oz : Option Addr} {cz : Nat} (DH : Heap) {Bd : List Bs} (hB : BdOk Bd) (hLl : Bd.length = L.length) (hLB : ∀ (i : Nat) (m : Pt), L[i]? = some m → Bd[i]? = some m.l) (hdat : ∀ m ∈ L, ∃ en ∈ DH, RdB m.oa en m.l)
    (hlst : 0 < L.length → ∃ b k cs e fr, ol = some ⟨b, k, none⟩ ∧ (⟨some b, .cells (List.toArray cs) e fr⟩ : Ent) ∈ DH ∧ ∀ (i : Nat) (m : Pt), L[i]? = some m → cs[k + i * 1]? = some (.slice m.oa m.l.length m.c)) (hz : ∃ en ∈ DH, RdB oz en Z) (hzl : Z.length ≤ 20) (hz0 : Z.length = 0) : Spec Tryz.prog 5 [.slice ol L.length cl9, .int .i64 (win : Int), .slice oz Z.length cz] DH (fun r H' => r = .bool true ∧ H' = DH) := by
  have hBl := hB.l
  refine Spec.of (E := [(0, .slice ol L.length cl9), (1, .int .i64 (win : Int)), (2, .slice oz Z.length cz)]) Tryz.func5 rfl (by kernel_rfl) Tryz.ntmps5 rfl rfl (fun w => ?_)
  refine WC_seq ?_
  refine WC_region ?_
  refine WL_val rfl rfl rfl (R_assign rfl rfl) ?_
  refine WL_nil ?_
  refine WQ_code ?_
  refine WC_seq ?_
  refine WC_region ?_
  refine WL_val rfl rfl rfl (R_move rfl rfl) ?_
  refine WL_do rfl rfl rfl (D_call (mnew_c win hw) rfl rfl rfl rfl (pqD)) ?_
  rintro _ _ ⟨_, ⟨pa, mba, rpa, rfl, rfl⟩, rfl⟩
  refine WL_val rfl rfl rfl (R_move rfl rfl) ?_
  refine WL_val rfl rfl rfl (R_extract rfl rfl rfl) ?_
  refine WL_val rfl rfl rfl (R_extract rfl rfl rfl) ?_
  refine WL_val rfl rfl rfl (R_assign rfl rfl) ?_
  refine WL_val rfl rfl rfl (R_assign rfl rfl) ?_
  refine WL_nil ?_
  refine WQ_code ?_
  refine WC_seq ?_
  refine WC_region ?_
  refine WL_val rfl rfl rfl (R_move rfl rfl) ?_
  refine WL_do rfl rfl rfl (D_call (mnew_s win hw) rfl rfl rfl rfl (pqD)) ?_
  rintro _ _ ⟨_, ⟨pb, mbb, rpb, rfl, rfl⟩, rfl⟩
  refine WL_val rfl rfl rfl (R_move rfl rfl) ?_
  refine WL_val rfl rfl rfl (R_extract rfl rfl rfl) ?_
  refine WL_val rfl rfl rfl (R_extract rfl rfl rfl) ?_
  refine WL_val rfl rfl rfl (R_assign rfl rfl) ?_
  refine WL_val rfl rfl rfl (R_assign rfl rfl) ?_
  refine WL_nil ?_
  refine WQ_code ?_
  refine WC_seq ?_
  refine WC_region ?_
  refine WL_val rfl rfl rfl (R_build rfl zv40 pl40 rfl rfl) ?_
  refine WL_do rfl rfl rfl (D_box (cs := [_, _, _, _, _, _, _, _, _]) rfl rfl rfl) ?_
  rintro _ _ ⟨b1, rfl, rfl⟩
  obtain ⟨gpc0, hpc0, hx1⟩ := c_new b1
  refine WL_turnT hx1 plD ?_
  refine WL_val rfl rfl rfl (R_build rfl zv45 pl45 rfl rfl) ?_
  refine WL_do rfl rfl rfl (D_box (cs := [_, _, _, _, _, _, _]) rfl rfl rfl) ?_
  rintro _ _ ⟨b2, rfl, rfl⟩
  obtain ⟨gpv0, hpv0, hx2⟩ := s_new b2
  refine WL_turnT hx2 plD ?_
  refine WL_val rfl rfl rfl (R_assign rfl rfl) ?_
  refine WL_val rfl rfl rfl (R_assign rfl rfl) ?_
  refine WL_nil ?_
  refine WQ_code ?_
  refine WC_seq ?_
  refine WC_seq ?_
  refine WC_region ?_
  refine WL_val rfl rfl rfl (R_move rfl rfl) ?_
  refine WL_val rfl rfl rfl (R_ptrEqNil rfl Tryz.underlying26 rfl) ?_
  refine WL_val rfl rfl rfl (R_move rfl rfl) ?_
  refine WL_val rfl rfl rfl (R_move rfl rfl) ?_
  refine WL_val rfl rfl rfl (R_ptrEqNil rfl Tryz.underlying26 rfl) ?_
  refine WL_val rfl rfl rfl (R_pickF rfl rfl rfl) ?_
  refine WL_val rfl rfl rfl (R_move rfl rfl) ?_
  refine WL_val rfl rfl rfl (R_move rfl rfl) ?_
  refine WL_val rfl rfl rfl (R_neq rfl rfl rfl) ?_
  refine WL_set (s := 56) (v := .bool false) rfl (by rfl) ?_
  refine WL_val rfl rfl rfl (R_pickF rfl rfl rfl) ?_
  refine WL_val rfl rfl rfl (R_move rfl rfl) ?_
  refine WL_val rfl rfl rfl (R_move rfl rfl) ?_
  refine WL_val rfl rfl rfl (R_neq rfl rfl rfl) ?_
  refine WL_set (s := 60) (v := .bool false) rfl (by rfl) ?_
  refine WL_val rfl rfl rfl (R_pickF rfl rfl rfl) ?_
  refine WL_nil ?_
  refine WQ_code ?_
  refine WC_F rfl ?_
  refine WC_skip ?_
  refine WQ_code ?_
  refine WC_seq ?_
  refine WC_region ?_
  refine WL_val rfl rfl rfl (R_move rfl rfl) ?_
  refine WL_do rfl rfl rfl (D_call (t_mopen pa mba rpa win hw) rfl rfl rfl rfl (pqD)) ?_
  rintro _ _ ⟨_, ⟨ga0, hga0, rfl, rfl⟩, rfl⟩
  refine WL_val rfl rfl rfl (R_move rfl rfl) ?_
  refine WL_val rfl rfl rfl (R_extract rfl rfl rfl) ?_
  refine WL_val rfl rfl rfl (R_extract rfl rfl rfl) ?_
  refine WL_val rfl rfl rfl (R_assign rfl rfl) ?_
  refine WL_val rfl rfl rfl (R_assign rfl rfl) ?_
  refine WL_nil ?_
  refine WQ_code ?_
  refine WC_seq ?_
  refine WC_seq ?_
  refine WC_region ?_
  refine WL_val rfl rfl rfl (R_move rfl rfl) ?_
  refine WL_val rfl rfl rfl (R_neq rfl rfl rfl) ?_
  refine WL_set (s := 68) (v := .bool false) rfl (by rfl) ?_
  refine WL_val rfl rfl rfl (R_move rfl rfl) ?_
  refine WL_val rfl rfl rfl (R_move rfl rfl) ?_
  refine WL_val rfl rfl rfl (R_neq rfl rfl rfl) ?_
  refine WL_set (s := 71) (v := .bool false) rfl (by rfl) ?_
  refine WL_val rfl rfl rfl (R_pickF rfl rfl rfl) ?_
  refine WL_val rfl rfl rfl (R_move rfl rfl) ?_
  refine WL_val rfl rfl rfl (R_move rfl rfl) ?_
  refine WL_val rfl rfl rfl (R_move rfl rfl) ?_
  refine WL_do rfl rfl rfl (D_call (carry0_ok hga0) rfl rfl rfl rfl (pqD)) ?_
  rintro _ _ ⟨_, ⟨ga1, gb1, wo, wc, wt, hga1, hgb1, hwv, hWo, rfl, rfl⟩, rfl⟩
  refine WL_val rfl rfl rfl (R_not rfl rfl) ?_
  refine WL_set (s := 77) (v := .bool false) rfl (by rfl) ?_
  refine WL_val rfl rfl rfl (R_pickF rfl rfl rfl) ?_
  refine WL_nil ?_
  refine WQ_code ?_
  refine WC_F rfl ?_
  refine WC_skip ?_
  refine WQ_code ?_
  refine WC_seq ?_
  refine WC_seq ?_
  refine WC_region ?_
  refine WL_val rfl rfl rfl (R_move rfl rfl) ?_
  refine WL_do rfl rfl rfl (D_call (t_accept hgb1 hwv hWo) rfl rfl rfl rfl (pqD)) ?_
  rintro _ _ ⟨_, ⟨gb2, hgb2, rfl, rfl⟩, rfl⟩
  refine WL_val rfl rfl rfl (R_move rfl rfl) ?_
  refine WL_val rfl rfl rfl (R_extract rfl rfl rfl) ?_
  refine WL_val rfl rfl rfl (R_extract rfl rfl rfl) ?_
  refine WL_val rfl rfl rfl (R_assign rfl rfl) ?_
  refine WL_val rfl rfl rfl (R_assign rfl rfl) ?_
  refine WL_nil ?_
  refine WQ_code ?_
  refine WC_seq ?_
  refine WC_region ?_
  refine WL_val rfl rfl rfl (R_move rfl rfl) ?_
  refine WL_val rfl rfl rfl (R_neq rfl rfl rfl) ?_
  refine WL_set (s := 85) (v := .bool false) rfl (by rfl) ?_
  refine WL_val rfl rfl rfl (R_move rfl rfl) ?_
  refine WL_val rfl rfl rfl (R_move rfl rfl) ?_
  refine WL_val rfl rfl rfl (R_neq rfl rfl rfl) ?_
  refine WL_set (s := 88) (v := .bool false) rfl (by rfl) ?_
  refine WL_val rfl rfl rfl (R_pickF rfl rfl rfl) ?_
  refine WL_nil ?_
  refine WQ_code ?_
  refine WC_F rfl ?_
  refine WC_skip ?_
  refine WQ_code ?_
  refine WC_seq ?_
  refine WC_seq ?_
  refine WC_region ?_
  refine WL_val rfl rfl rfl (R_assign rfl rfl) ?_
  refine WL_nil ?_
  refine WQ_code ?_
  refine WC_block ?_
  refine WC_loopF (G := TcW) [6, 16, 17, 18, 90, 91, 92, 93, 94, 95, 96, 97, 98, 99, 100, 101, 102, 103, 104, 105, 106, 107, 108, 109, 110, 111, 112] (fun q => q.k ≤ L.length ∧ CGd q.g b1 (cS q.k (encA (tMk rqF 0 (Bd.take q.k))) [] (tMk caF 0 (Bd.take q.k)) [])) (fun q => [(16, .int .i64 (q.k : Int))]) (fun q => cH q.g) (fun q => L.length - q.k) (⟨0, gpc0⟩) (⟨Nat.zero_le _, hpc0⟩) leZ (pqD) ?_
  rintro q ⟨hqk, hcc⟩
  refine WC_seq ?_
  refine WC_seq ?_
  refine WC_region ?_
  refine WL_val rfl rfl rfl (R_move rfl rfl) ?_
  refine WL_val rfl rfl rfl (R_move rfl rfl) ?_
  refine WL_val rfl rfl rfl (R_len rfl Tryz.underlying22 rfl) ?_
  refine WL_val rfl rfl rfl (R_lss rfl rfl rfl) ?_
  refine WL_nil ?_
  refine WQ_code ?_
  refine WC_dec rfl (fun c1 => ?_) (fun c1 => ?_)
  · refine WC_skip ?_
    refine WQ_code ?_
    refine WC_seq ?_
    refine WC_block ?_
    refine WC_seq ?_
    refine WC_region ?_
    refine WL_val rfl rfl rfl (R_move rfl rfl) ?_
    refine WL_val rfl rfl rfl (R_move rfl rfl) ?_
    refine WL_val rfl rfl rfl (R_move rfl rfl) ?_
    obtain ⟨mv, hmv⟩ := getE (T := L) (i := q.k) (by omega)
    have hmb := hLB q.k mv hmv
    obtain ⟨en, hen, hrd⟩ := hdat mv (List.mem_of_getElem? hmv)
    obtain ⟨lb, lk, lcs, le, lfr, rfl, hlm, hlat⟩ := hlst (by omega)
    refine WL_val rfl rfl rfl (R_indexAddrN rfl Tryz.underlying22 Tryz.sizeOf23 rfl rfl (by omega)) ?_
    refine WL_val rfl rfl rfl (R_loadG rfl sc23 rfl (pulls_mem (pqD : Pulls DH _ _) hlm) (hlat q.k mv hmv)) ?_
    refine WL_do rfl rfl rfl (D_call (t_call hcc hB hmb (hdat mv (List.mem_of_getElem? hmv))) rfl rfl rfl rfl (pqD)) ?_
    rintro _ _ ⟨_, ⟨gc2, hgc2, rfl, rfl⟩, rfl⟩
    refine WL_val rfl rfl rfl (R_move rfl rfl) ?_
    refine WL_val rfl rfl rfl (R_extract rfl rfl rfl) ?_
    refine WL_val rfl rfl rfl (R_extract rfl rfl rfl) ?_
    refine WL_val rfl rfl rfl (R_assign rfl rfl) ?_
    refine WL_val rfl rfl rfl (R_assign rfl rfl) ?_
    refine WL_nil ?_
    refine WQ_code ?_
    refine WC_seq ?_
    refine WC_region ?_
    refine WL_val rfl rfl rfl (R_move rfl rfl) ?_
    refine WL_val rfl rfl rfl (R_move rfl rfl) ?_
    refine WL_val rfl rfl rfl (R_addR (r := ((q.k + 1 : Nat) : Int)) rfl rfl rfl (by rw [wrap64_in (by omega) (by omega)]; omega)) ?_
    refine WL_val rfl rfl rfl (R_neq rfl rfl rfl) ?_
    refine WL_set (s := 108) (v := .bool false) rfl (by exact congrArg Value.bool (decide_eq_false (fun e => e rfl))) ?_
    refine WL_val rfl rfl rfl (R_move rfl rfl) ?_
    refine WL_val rfl rfl rfl (R_move rfl rfl) ?_
    refine WL_val rfl rfl rfl (R_neq rfl rfl rfl) ?_
    refine WL_set (s := 111) (v := .bool false) rfl (by rfl) ?_
    refine WL_val rfl rfl rfl (R_pickF rfl rfl rfl) ?_
    refine WL_nil ?_
    refine WQ_code ?_
    refine WC_F rfl ?_
    refine WC_skip ?_
    refine WQ_code ?_
    refine WC_region ?_
    refine WL_val rfl rfl rfl (R_move rfl rfl) ?_
    refine WL_val rfl rfl rfl (R_add rfl rfl rfl (by omega)) ?_
    refine WL_val rfl rfl rfl (R_assign rfl rfl) ?_
    refine WL_nil ?_
    refine WQ_nextF (gg := q) (⟨q.k + 1, gc2⟩) (⟨by dsimp only; omega, hgc2⟩) (by dsimp only; omega) leZ (psZ) rfl (pqD)
  · have hk9 : q.k = Bd.length := by omega
    rw [hk9, List.take_length] at hcc
    refine WC_exit ?_
    refine WQ_code ?_
    refine WC_seq ?_
    refine WC_region ?_
    refine WL_val rfl rfl rfl (R_assign rfl rfl) ?_
    refine WL_val rfl rfl rfl (R_assign rfl rfl) ?_
    refine WL_nil ?_
    refine WQ_code ?_
    refine WC_seq ?_
    refine WC_region ?_
    refine WL_val rfl rfl rfl (R_move rfl rfl) ?_
    refine WL_val rfl rfl rfl (R_len rfl Tryz.underlying22 rfl) ?_
    refine WL_val rfl rfl rfl (R_assign rfl rfl) ?_
    refine WL_nil ?_
    refine WQ_code ?_
    refine WC_seq ?_
    refine WC_seq ?_
    refine WC_region ?_
    refine WL_val rfl rfl rfl (R_assign rfl rfl) ?_
    refine WL_nil ?_
    refine WQ_code ?_
    refine WC_block ?_
    refine WC_none 5 ?_
    refine WC_none 5 ?_
    refine WC_loopF (G := TkW) [6, 19, 20, 21, 22, 23, 24, 25, 26, 27, 28, 29, 30, 31, 32, 33, 115, 116, 117, 118, 119, 120, 121, 122, 123, 124, 125, 126, 127, 128, 129, 130, 131, 132, 133, 134, 135, 136, 137, 138, 139, 140, 141, 142, 143, 144, 145, 146, 147, 148, 149, 150, 151, 152, 153, 154, 155, 156, 157, 158, 159, 160, 161, 162, 163, 164, 165, 166, 167, 168, 169, 170, 171, 172, 173, 174, 175, 176, 177, 178, 179, 180, 181, 182, 183, 184, 185, 186, 187, 188, 189, 190, 191, 192, 193, 194, 195, 196, 197, 198, 199, 200, 201, 202, 203, 204, 205, 206, 207, 208, 209, 210, 211, 212, 213, 214, 215, 216, 217, 218, 219, 220, 221, 222, 223, 224, 225, 226, 227, 228, 229, 230, 231, 232, 233, 234, 235, 236, 237, 238, 239, 240, 241, 242, 243, 244, 245, 246, 247, 248, 249, 250, 251, 252, 253, 254, 255, 256, 257, 258, 259, 260, 261, 262, 263, 264, 265, 266, 267, 268, 269, 270, 271, 272, 273, 274, 275, 276, 277, 278, 279, 280, 281, 282, 283, 284, 285, 286, 287, 288, 289, 290, 291, 292, 293, 294, 295, 296, 297, 298, 299, 300, 301, 302, 303, 304, 305, 306, 307, 308, 309, 310, 311, 312, 313, 314, 315, 316, 317, 318, 319, 320, 321, 322, 323, 324, 325, 326, 327, 328, 329, 330, 331, 332, 333, 334, 335, 336] (fun y => MGd y.ga pa y.a ∧ MGd y.gb pb y.b ∧ CGd y.gc b1 (cS Bd.length y.co y.cb (tMk caF y.i (Bd.drop y.i)) []) ∧ SGd y.gs b2 (sS y.j y.so y.sb [] []) ∧ TI Bd win (⟨y.a, y.b, y.F1, y.F2, y.P1, y.P2, [], [], y.co, y.so, y.cb, y.sb, y.i, y.j, y.j⟩ : TS) ∧ Phi Bd (⟨y.a, y.b, y.F1, y.F2, y.P1, y.P2, [], [], y.co, y.so, y.cb, y.sb, y.i, y.j, y.j⟩ : TS) + 16 * y.t ≤ 120000 ∧ (y.a.un = [] ∧ y.b.un = []) ∧ OwnS y.o1 y.k1 y.P1.length y.c1 1 y.p1 (bvs y.P1) y.q1 ∧ OwnS y.o2 y.k2 y.P2.length y.c2 1 y.p2 (bvs y.P2) y.q2) (fun y => [(22, .int .i64 (y.t : Int)), (19, sVal y.o1 y.k1 y.P1.length y.c1), (20, sVal y.o2 y.k2 y.P2.length y.c2), (21, .int .i64 ((L.length - y.i : Nat) : Int))]) (fun y => mH y.ga ++ mH y.gb ++ cH y.gc ++ sH y.gs ++ [⟨y.o1, cl (y.p1 ++ (bvs (y.P1) ++ y.q1)) 5⟩, ⟨y.o2, cl (y.p2 ++ (bvs (y.P2) ++ y.q2)) 5⟩]) (fun y => 20000 - y.t) (⟨0, ga1, gb2, q.g, gpv0, ⟨win, 3, 2, win, win, 0, [], [], []⟩, ⟨win, 2, 3, win, win, 0, [], [], []⟩, [], [], [], [], encA (tMk rqF 0 Bd), [], [], [], 0, 0, none, 0, 0, [], [], none, 0, 0, [], []⟩) (⟨hga1, hgb2, hcc, hpv0, (ti0 hB hw).1, (ti0 hB hw).2, ⟨rfl, rfl⟩, OwnS.empty 1, OwnS.empty 1⟩) leZ (pqD) ?_
    rintro y ⟨hga, hgb, hgc, hgs, hTI, hPh, hun, hO1, hO2⟩
    have hij0 := hTI.ijL
    have hl0 := hTI.lens hB
    have hou0 := hTI.outL hB (by omega)
    refine WC_seq ?_
    refine WC_seq ?_
    refine WC_region ?_
    refine WL_val rfl rfl rfl (R_move rfl rfl) ?_
    refine WL_val rfl rfl rfl (R_lss rfl rfl rfl) ?_
    refine WL_nil ?_
    refine WQ_code ?_
    refine WC_dT rfl (by omega) ?_
    refine WC_skip ?_
    refine WQ_code ?_
    refine WC_seq ?_
    refine WC_block ?_
    refine WC_seq ?_
    refine WC_seq ?_
    refine WC_region ?_
    refine WL_val rfl rfl rfl (R_move rfl rfl) ?_
    refine WL_val rfl rfl rfl (R_eql rfl rfl rfl) ?_
    refine WL_nil ?_
    refine WQ_code ?_
    refine WC_dec rfl (fun c2 => ?_) (fun c2 => ?_)
    · have hnil : tMk caF y.i (Bd.drop y.i) = [] := by rw [List.drop_eq_nil_of_le (by omega)]; rfl
      refine WC_seq ?_
      refine WC_region ?_
      refine WL_val rfl rfl rfl (R_move rfl rfl) ?_
      refine WL_do rfl rfl rfl (D_call (k_open hgc (pcb_S (by omega) (by omega) (by omega) (by rw [List.length_drop]; omega) (by omega) (Nat.zero_le _))) rfl rfl rfl rfl (pqD)) ?_
      rintro _ _ ⟨_, ⟨oq, cq, tq, rfl, ownq, rfl⟩, rfl⟩
      refine WL_val rfl rfl rfl (R_len rfl Tryz.underlying42 rfl) ?_
      refine WL_val rfl rfl rfl (R_eql rfl rfl rfl) ?_
      refine WL_set (s := 124) (v := .bool true) rfl (by exact congrArg Value.bool (decide_eq_true (by rw [List.length_map]; show (((tMk caF y.i (Bd.drop y.i)).length : Nat) : Int) = 0; rw [hnil]; rfl))) ?_
      refine WL_val rfl rfl rfl (R_move rfl rfl) ?_
      refine WL_val rfl rfl rfl (R_move rfl rfl) ?_
      refine WL_do rfl rfl rfl (D_call (t_err hga) rfl rfl rfl rfl (pqD)) ?_
      rintro _ _ ⟨_, ⟨rfl, rfl⟩, rfl⟩
      refine WL_val rfl rfl rfl (R_eql rfl rfl rfl) ?_
      refine WL_set (s := 128) (v := .bool true) rfl (by rfl) ?_
      refine WL_val rfl rfl rfl (R_pickT rfl rfl rfl) ?_
      refine WL_val rfl rfl rfl (R_move rfl rfl) ?_
      refine WL_val rfl rfl rfl (R_move rfl rfl) ?_
      refine WL_do rfl rfl rfl (D_call (t_err hgb) rfl rfl rfl rfl (pqD)) ?_
      rintro _ _ ⟨_, ⟨rfl, rfl⟩, rfl⟩
      refine WL_val rfl rfl rfl (R_eql rfl rfl rfl) ?_
      refine WL_set (s := 133) (v := .bool true) rfl (by rfl) ?_
      refine WL_val rfl rfl rfl (R_pickT rfl rfl rfl) ?_
      refine WL_val rfl rfl rfl (R_assign rfl rfl) ?_
      refine WL_nil ?_
      refine WQ_code ?_
      refine WC_ret ?_
      refine WQ_ret rfl rfl (.cons (.tmp rfl) .nil) rfl (by
          exact ⟨rfl, rfl⟩) (pqD)
    · have hin : y.i < Bd.length := by omega
      obtain ⟨hT2, hP2⟩ := hTI.e12
      have hl2 := hT2.lens hB
      obtain ⟨F1a, F2a, hT4, hP4, hne⟩ := hT2.e34
      have hne := hne hun.1 hun.2 hin
      have hl4 := hT4.lens hB
      have hou4 := hT4.outL hB (by omega)
      have h4 := hT4.cc1
      refine WC_skip ?_
      refine WQ_code ?_
      refine WC_seq ?_
      refine WC_region ?_
      refine WL_val rfl rfl rfl (R_assign rfl rfl) ?_
      refine WL_nil ?_
      refine WQ_code ?_
      refine WC_seq ?_
      refine WC_seq ?_
      refine WC_region ?_
      refine WL_val rfl rfl rfl (R_move rfl rfl) ?_
      refine WL_val rfl rfl rfl (R_len rfl Tryz.underlying23 rfl) ?_
      refine WL_val rfl rfl rfl (R_gtr rfl rfl rfl) ?_
      refine WL_nil ?_
      refine WQ_code ?_
      refine WC_dF rfl (by omega) ?_
      refine WC_skip ?_
      refine WQ_code ?_
      refine WC_seq ?_
      refine WC_region ?_
      obtain ⟨n9, hn9⟩ : ∃ n9 : Nat, n9 = 16 := ⟨_, rfl⟩
      refine WL_set (s := 23) (v := .int .i64 (n9 : Int)) rfl (by rw [hn9]; rfl) ?_
      refine WL_val rfl rfl rfl (R_move rfl rfl) ?_
      refine WL_do rfl rfl rfl (D_call (t_cout hgc (pcb_S (by omega) (by omega) (by omega) (by rw [List.length_drop]; omega) (by omega) (Nat.zero_le _)) (by omega)) rfl rfl rfl rfl (pqD)) ?_
      rintro _ _ ⟨_, ⟨gc1, o9, c9, tl9, hgc1, own9, rfl, rfl⟩, rfl⟩
      refine WL_val rfl rfl rfl (R_move rfl rfl) ?_
      refine WL_val rfl rfl rfl (R_extract rfl rfl rfl) ?_
      refine WL_val rfl rfl rfl (R_extract rfl rfl rfl) ?_
      refine WL_val rfl rfl rfl (R_assign rfl rfl) ?_
      refine WL_val rfl rfl rfl (R_assign rfl rfl) ?_
      refine WL_nil ?_
      refine WQ_code ?_
      refine WC_seq ?_
      refine WC_region ?_
      refine WL_val rfl rfl rfl (R_move rfl rfl) ?_
      refine WL_do rfl rfl rfl (D_call (t_sout hgs (pvb_S (L := []) (L' := []) (i := 0) (i' := 0) (by omega) (by omega) (by omega) (Nat.zero_le _) (Nat.zero_le _) (Nat.zero_le _)) (by omega)) rfl rfl rfl rfl (pqD)) ?_
      rintro _ _ ⟨_, ⟨gs1, o8, c8, tl8, hgs1, own8, rfl, rfl⟩, rfl⟩
      refine WL_val rfl rfl rfl (R_move rfl rfl) ?_
      refine WL_val rfl rfl rfl (R_extract rfl rfl rfl) ?_
      refine WL_val rfl rfl rfl (R_extract rfl rfl rfl) ?_
      refine WL_val rfl rfl rfl (R_assign rfl rfl) ?_
      refine WL_val rfl rfl rfl (R_assign rfl rfl) ?_
      refine WL_nil ?_
      refine WQ_code ?_
      refine WC_seq ?_
      refine WC_seq ?_
      refine WC_region ?_
      refine WL_val rfl rfl rfl (R_move rfl rfl) ?_
      refine WL_val rfl rfl rfl (R_neq rfl rfl rfl) ?_
      refine WL_set (s := 158) (v := .bool false) rfl (by rfl) ?_
      refine WL_val rfl rfl rfl (R_move rfl rfl) ?_
      refine WL_val rfl rfl rfl (R_move rfl rfl) ?_
      refine WL_val rfl rfl rfl (R_neq rfl rfl rfl) ?_
      refine WL_set (s := 161) (v := .bool false) rfl (by rfl) ?_
      refine WL_val rfl rfl rfl (R_pickF rfl rfl rfl) ?_
      refine WL_nil ?_
      refine WQ_code ?_
      refine WC_F rfl ?_
      refine WC_skip ?_
      refine WQ_code ?_
      refine WC_seq ?_
      refine WC_region ?_
      refine WL_val rfl rfl rfl (R_move rfl rfl) ?_
      refine WL_val rfl rfl rfl (R_move rfl rfl) ?_
      refine WL_do rfl rfl rfl (D_appendB rfl si23 rfl hO1 plD rfl (RdB.own own9) mmD (by omega) (by omega)) ?_
      rintro _ _ ⟨obA, kkA, ccA, ppA, ttA, rfl, hOA, rfl, _⟩
      rw [← bvs_app, show y.P1.length + y.co.length = (y.P1 ++ y.co).length from by simp] at hOA ⊢
      refine WL_val rfl rfl rfl (R_move rfl rfl) ?_
      refine WL_val rfl rfl rfl (R_move rfl rfl) ?_
      refine WL_do rfl rfl rfl (D_appendB rfl si23 rfl hO2 plD rfl (RdB.own own8) mmD (by omega) (by omega)) ?_
      rintro _ _ ⟨obB, kkB, ccB, ppB, ttB, rfl, hOB, rfl, _⟩
      rw [← bvs_app, show y.P2.length + y.so.length = (y.P2 ++ y.so).length from by simp] at hOB ⊢
      refine WL_val rfl rfl rfl (R_assign rfl rfl) ?_
      refine WL_val rfl rfl rfl (R_assign rfl rfl) ?_
      refine WL_nil ?_
      refine WQ_code ?_
      refine WC_seq ?_
      refine WC_region ?_
      refine WL_val rfl rfl rfl (R_assign rfl rfl) ?_
      refine WL_val rfl rfl rfl (R_assign rfl rfl) ?_
      refine WL_nil ?_
      refine WQ_code ?_
      refine WC_seq ?_
      refine WC_region ?_
      refine WL_val rfl rfl rfl (R_move rfl rfl) ?_
      refine WL_val rfl rfl rfl (R_move rfl rfl) ?_
      refine WL_val rfl rfl rfl (R_move rfl rfl) ?_
      refine WL_do rfl rfl rfl (D_call (pump_ok hga hOA (by rw [List.length_append]; omega) (by omega)) rfl rfl rfl rfl (pqD)) ?_
      rintro _ _ ⟨_, ⟨ga1, oA, kA, cA, pA, qA, hga1, hOA2, rfl, rfl⟩, rfl⟩
      refine WL_val rfl rfl rfl (R_move rfl rfl) ?_
      refine WL_val rfl rfl rfl (R_extract rfl rfl rfl) ?_
      refine WL_val rfl rfl rfl (R_extract rfl rfl rfl) ?_
      refine WL_val rfl rfl rfl (R_assign rfl rfl) ?_
      refine WL_val rfl rfl rfl (R_assign rfl rfl) ?_
      refine WL_nil ?_
      refine WQ_code ?_
      refine WC_seq ?_
      refine WC_region ?_
      refine WL_val rfl rfl rfl (R_move rfl rfl) ?_
      refine WL_val rfl rfl rfl (R_move rfl rfl) ?_
      refine WL_val rfl rfl rfl (R_move rfl rfl) ?_
      refine WL_do rfl rfl rfl (D_call (pump_ok hgb hOB (by rw [List.length_append]; omega) (by omega)) rfl rfl rfl rfl (pqD)) ?_
      rintro _ _ ⟨_, ⟨gb1, oB, kB, cB, pB, qB, hgb1, hOB2, rfl, rfl⟩, rfl⟩
      refine WL_val rfl rfl rfl (R_move rfl rfl) ?_
      refine WL_val rfl rfl rfl (R_extract rfl rfl rfl) ?_
      refine WL_val rfl rfl rfl (R_extract rfl rfl rfl) ?_
      refine WL_val rfl rfl rfl (R_assign rfl rfl) ?_
      refine WL_val rfl rfl rfl (R_assign rfl rfl) ?_
      refine WL_nil ?_
      refine WQ_code ?_
      refine WC_seq ?_
      refine WC_seq ?_
      refine WC_region ?_
      refine WL_val rfl rfl rfl (R_move rfl rfl) ?_
      refine WL_val rfl rfl rfl (R_not rfl rfl) ?_
      refine WL_set (s := 184) (v := .bool false) rfl (by rfl) ?_
      refine WL_val rfl rfl rfl (R_move rfl rfl) ?_
      refine WL_val rfl rfl rfl (R_move rfl rfl) ?_
      refine WL_val rfl rfl rfl (R_not rfl rfl) ?_
      refine WL_set (s := 187) (v := .bool false) rfl (by rfl) ?_
      refine WL_val rfl rfl rfl (R_pickF rfl rfl rfl) ?_
      refine WL_val rfl rfl rfl (R_move rfl rfl) ?_
      refine WL_val rfl rfl rfl (R_move rfl rfl) ?_
      refine WL_val rfl rfl rfl (R_move rfl rfl) ?_
      refine WL_val rfl rfl rfl (R_move rfl rfl) ?_
      refine WL_do rfl rfl rfl (D_call (t_carry hga1 hgb1 h4.1 h4.2.1 h4.2.2.1 h4.2.2.2.1 h4.2.2.2.2.1 n9 (by omega) (by omega) (by omega)) rfl rfl rfl rfl (pqD)) ?_
      rintro _ _ ⟨_, ⟨ga2, gb2, A1, B1, bs1, hL1, hga2, hgb2, hE1, hW1, rfl, rfl⟩, rfl⟩
      refine WL_val rfl rfl rfl (R_not rfl rfl) ?_
      refine WL_set (s := 194) (v := .bool false) rfl (by rfl) ?_
      refine WL_val rfl rfl rfl (R_pickF rfl rfl rfl) ?_
      refine WL_val rfl rfl rfl (R_move rfl rfl) ?_
      refine WL_val rfl rfl rfl (R_move rfl rfl) ?_
      refine WL_val rfl rfl rfl (R_move rfl rfl) ?_
      refine WL_val rfl rfl rfl (R_move rfl rfl) ?_
      obtain ⟨hT5, hP5⟩ := hT4.e5 hL1 hE1 hW1 (by omega)
      have h5 := hT5.cc2
      have hou5 := hT5.outL hB (by omega)
      refine WL_do rfl rfl rfl (D_call (t_carry hgb2 hga2 h5.1 h5.2.1 h5.2.2.1 h5.2.2.2.1 h5.2.2.2.2.1 n9 (by omega) (by omega) (by omega)) rfl rfl rfl rfl (pqD)) ?_
      rintro _ _ ⟨_, ⟨gb3, ga3, A2, B2, bs2, hL2, hgb3, hga3, hE2, hW2, rfl, rfl⟩, rfl⟩
      refine WL_val rfl rfl rfl (R_not rfl rfl) ?_
      refine WL_set (s := 201) (v := .bool false) rfl (by rfl) ?_
      refine WL_val rfl rfl rfl (R_pickF rfl rfl rfl) ?_
      refine WL_nil ?_
      refine WQ_code ?_
      refine WC_F rfl ?_
      refine WC_skip ?_
      refine WQ_code ?_
      refine WC_seq ?_
      refine WC_region ?_
      refine WL_val rfl rfl rfl (R_move rfl rfl) ?_
      refine WL_val rfl rfl rfl (R_move rfl rfl) ?_
      obtain ⟨hT6, hP6⟩ := hT5.e6 hL2 hE2 hW2 (by omega)
      rw [show (((y.b.wr (y.P2 ++ y.so)).put A1 bs1)).out = ((y.b.wr (y.P2 ++ y.so))).out from rfl] at hP6
      have h16 := if16 hne
      have h7 := hT6.dd1
      have hl6 := hT6.lens hB
      have hou6 := hT6.outL hB (by omega)
      refine WL_do rfl rfl rfl (D_call (drained_ok hgb3 h7.1 h7.2 (by omega) (by omega)) rfl rfl rfl rfl (pqD)) ?_
      rintro _ _ ⟨_, ⟨gb4, cs1, cr1, od1, kd1, cd1, pd1, td1, hgb4, hsm1, hcs1, hcr1, hOd1, rfl, rfl⟩, rfl⟩
      refine WL_val rfl rfl rfl (R_move rfl rfl) ?_
      refine WL_val rfl rfl rfl (R_extract rfl rfl rfl) ?_
      refine WL_val rfl rfl rfl (R_extract rfl rfl rfl) ?_
      refine WL_val rfl rfl rfl (R_assign rfl rfl) ?_
      refine WL_val rfl rfl rfl (R_assign rfl rfl) ?_
      refine WL_nil ?_
      refine WQ_code ?_
      refine WC_seq ?_
      refine WC_region ?_
      refine WL_val rfl rfl rfl (R_move rfl rfl) ?_
      refine WL_val rfl rfl rfl (R_move rfl rfl) ?_
      obtain ⟨F2b, hT7, hP7⟩ := hT6.e7 hsm1 hcs1 hcr1
      have h8 := hT7.dd2
      have hl7 := hT7.lens hB
      have hou7 := hT7.outL hB (by omega)
      refine WL_do rfl rfl rfl (D_call (drained_ok hga3 h8.1 h8.2 (by omega) (by omega)) rfl rfl rfl rfl (pqD)) ?_
      rintro _ _ ⟨_, ⟨ga4, cs2, cr2, od2, kd2, cd2, pd2, td2, hga4, hsm2, hcs2, hcr2, hOd2, rfl, rfl⟩, rfl⟩
      refine WL_val rfl rfl rfl (R_move rfl rfl) ?_
      refine WL_val rfl rfl rfl (R_extract rfl rfl rfl) ?_
      refine WL_val rfl rfl rfl (R_extract rfl rfl rfl) ?_
      refine WL_val rfl rfl rfl (R_assign rfl rfl) ?_
      refine WL_val rfl rfl rfl (R_assign rfl rfl) ?_
      refine WL_nil ?_
      refine WQ_code ?_
      refine WC_seq ?_
      refine WC_seq ?_
      refine WC_region ?_
      refine WL_val rfl rfl rfl (R_move rfl rfl) ?_
      refine WL_val rfl rfl rfl (R_not rfl rfl) ?_
      refine WL_set (s := 216) (v := .bool false) rfl (by rfl) ?_
      refine WL_val rfl rfl rfl (R_move rfl rfl) ?_
      refine WL_val rfl rfl rfl (R_move rfl rfl) ?_
      refine WL_val rfl rfl rfl (R_not rfl rfl) ?_
      refine WL_set (s := 219) (v := .bool false) rfl (by rfl) ?_
      refine WL_val rfl rfl rfl (R_pickF rfl rfl rfl) ?_
      refine WL_val rfl rfl rfl (R_move rfl rfl) ?_
      refine WL_val rfl rfl rfl (R_move rfl rfl) ?_
      refine WL_val rfl rfl rfl (R_move rfl rfl) ?_
      obtain ⟨F1b, hT8, hP8⟩ := hT7.e8 hsm2 hcs2 hcr2
      have hl8 := hT8.lens hB
      obtain ⟨J, sb9, hJ1, hJ2, hrv1, hT9, hP9⟩ := hT8.e9 hB rfl
      obtain ⟨I9, cb9, hI1, hI2, hrv2, hT10, hP10⟩ := hT9.e10 hB rfl
      have hl9 := hT9.lens hB
      have hl10 := hT10.lens hB
      refine WL_do rfl rfl rfl (D_call (t_srecv hgs1 (pvb_S (L := []) (L' := []) (i := 0) (i' := 0) (by omega) (by omega) (by omega) (Nat.zero_le _) (Nat.zero_le _) (Nat.zero_le _)) (RdB.ownS hOd1) (by omega) hrv1) rfl rfl rfl rfl (pqD)) ?_
      rintro _ _ ⟨_, ⟨gs2, hgs2, rfl, rfl⟩, rfl⟩
      refine WL_val rfl rfl rfl (R_neq rfl rfl rfl) ?_
      refine WL_set (s := 225) (v := .bool false) rfl (by rfl) ?_
      refine WL_val rfl rfl rfl (R_pickF rfl rfl rfl) ?_
      refine WL_val rfl rfl rfl (R_move rfl rfl) ?_
      refine WL_val rfl rfl rfl (R_move rfl rfl) ?_
      refine WL_val rfl rfl rfl (R_move rfl rfl) ?_
      refine WL_do rfl rfl rfl (D_call (t_crecv hgc1 (pcb_S (by omega) (Nat.zero_le _) (by omega) (by rw [List.length_drop]; omega) (by omega) (Nat.zero_le _)) (RdB.ownS hOd2) (by omega) hrv2) rfl rfl rfl rfl (pqD)) ?_
      rintro _ _ ⟨_, ⟨gc2, hgc2, rfl, rfl⟩, rfl⟩
      refine WL_val rfl rfl rfl (R_neq rfl rfl rfl) ?_
      refine WL_set (s := 231) (v := .bool false) rfl (by rfl) ?_
      refine WL_val rfl rfl rfl (R_pickF rfl rfl rfl) ?_
      refine WL_nil ?_
      refine WQ_code ?_
      refine WC_F rfl ?_
      refine WC_skip ?_
      refine WQ_code ?_
      refine WC_seq ?_
      refine WC_seq ?_
      refine WC_region ?_
      refine WL_val rfl rfl rfl (R_move rfl rfl) ?_
      refine WL_do rfl rfl rfl (D_call (t_snext hgs2 (pvb_S (by omega) (Nat.zero_le _) (by omega) (by have := sl_len Bd y.j J; omega) (by omega) (by have := sl_len Bd y.j J; omega)) ⟨hJ1, hJ2⟩) rfl rfl rfl rfl (pqD)) ?_
      rintro _ _ ⟨_, ⟨gs3, o3, c3, tl3, id3, dl3, bd3, hgs3, own3, hcur3, rfl, rfl⟩, rfl⟩
      refine WL_val rfl rfl rfl (R_move rfl rfl) ?_
      refine WL_val rfl rfl rfl (R_extract rfl rfl rfl) ?_
      refine WL_val rfl rfl rfl (R_extract rfl rfl rfl) ?_
      refine WL_do rfl rfl rfl (D_alloc rfl zv59) ?_
      rintro _ _ ⟨b3, rfl, rfl⟩
      refine WL_do0 rfl rfl (D_store (vs := [_, _, _]) rfl Tryz.sizeOf59 rfl rfl rfl rfl rfl (plD) (by exact Nat.le_of_ble_eq_true rfl)) ?_
      rintro _ _ rfl
      refine WL_val rfl rfl rfl (R_assign rfl rfl) ?_
      refine WL_nil ?_
      refine WQ_code ?_
      refine WC_block ?_
      refine WC_loopF (G := SwW) [6, 30, 31, 238, 239, 240, 241, 242, 243, 244, 245, 246, 247, 248, 249, 250, 251, 252, 253, 254, 255, 256, 257, 258, 259, 260, 261, 262, 263, 264, 265, 266, 267, 268, 269, 270, 271, 272, 273, 274, 275, 276, 277, 278, 279, 280, 281, 282, 283] (fun u => y.j ≤ u.m ∧ u.m ≤ J ∧ SGd u.gs b2 (sS J u.so sb9 (tMk idF u.m (sl Bd u.m J)) (tMk rrF (u.m + 1) (sl Bd (u.m + 1) J))) ∧ (u.m < J → u.id = ((u.m + 1 : Nat) : Int) ∧ Bd[u.m]? = some u.bd) ∧ Own u.o u.bd.length u.c 1 (bvs u.bd) u.tl ∧ TI Bd win (⟨(drX (((y.a.wr (y.P1 ++ y.co)).cut n9).put A2 bs2) [] cr2 cs2), (drX (((y.b.wr (y.P2 ++ y.so)).put A1 bs1).cut n9) [] cr1 cs1), F1b, F2b, ((y.P1 ++ y.co).drop (y.a.wq (y.P1 ++ y.co))), ((y.P2 ++ y.so).drop (y.b.wq (y.P2 ++ y.so))), [], [], [], u.so, cb9, sb9, I9, u.m, J⟩ : TS) ∧ Phi Bd (⟨(drX (((y.a.wr (y.P1 ++ y.co)).cut n9).put A2 bs2) [] cr2 cs2), (drX (((y.b.wr (y.P2 ++ y.so)).put A1 bs1).cut n9) [] cr1 cs1), F1b, F2b, ((y.P1 ++ y.co).drop (y.a.wq (y.P1 ++ y.co))), ((y.P2 ++ y.so).drop (y.b.wq (y.P2 ++ y.so))), [], [], [], u.so, cb9, sb9, I9, u.m, J⟩ : TS) + 16 * (y.t + 1) ≤ 120000) (fun u => [(31, .bool (decide (u.m < J))), (30, ptrW u.bn)]) (fun u => sH u.gs ++ [⟨some u.bn, cl [.int .i64 u.id, .int .u64 u.dl, slV u.o u.bd.length u.c] 59⟩, ⟨u.o, cl (bvs (u.bd) ++ u.tl) 5⟩]) (fun u => J - u.m) (⟨y.j, gs3, [], id3, dl3, bd3, o3, c3, tl3, b3⟩) (⟨Nat.le_refl _, hJ1, hgs3, hcur3, own3, hT10, by dsimp only; omega⟩) leZ (pqD) ?_
      rintro u ⟨hm1, hm2, hgu, hcu, ownu, hTu, hPu⟩
      refine WC_seq ?_
      refine WC_seq ?_
      refine WC_region ?_
      refine WL_val rfl rfl rfl (R_move rfl rfl) ?_
      refine WL_nil ?_
      refine WQ_code ?_
      refine WC_dec rfl (fun c3 => ?_) (fun c3 => ?_)
      · have hmJ : u.m < J := c3
        obtain ⟨hid, hbd⟩ := hcu hmJ
        have hblu := hB.b u.bd (List.mem_of_getElem? hbd)
        have hlu := hTu.lens hB
        obtain ⟨mv, hmv⟩ := getE (T := L) (i := u.m) (by omega)
        have hmb := hLB u.m mv hmv
        obtain ⟨en, hen, hrd⟩ := hdat mv (List.mem_of_getElem? hmv)
        obtain ⟨lb, lk, lcs, le, lfr, rfl, hlm, hlat⟩ := hlst (by omega)
        rw [hbd] at hmb
        have hmb : u.bd = mv.l := Option.some.inj hmb
        refine WC_skip ?_
        refine WQ_code ?_
        refine WC_seq ?_
        refine WC_block ?_
        refine WC_seq ?_
        refine WC_drawBR ([] ++ sH u.gs) [(0, .q), (1, .q), (2, .q), (3, .q), (4, .q), (5, .q), (6, .q), (7, .q), (8, .q), (9, .q), (10, .q), (11, .q), (12, .q), (13, .q), (14, .q), (15, .q), (16, .q), (17, .q), (18, .q), (19, .q), (20, .q), (21, .q), (22, .q), (23, .q), (24, .q), (25, .q), (26, .q), (27, .q), (28, .q), (30, .q), (31, .q), (32, .q), (33, .q), (29, .n [34]), (34, .b []), (35, .n []), (36, .n []), (37, .q), (38, .q)] followsMixed rfl rfl (by kernel_rfl) (pqD) ?_
        refine WB_val rfl rfl rfl rfl (R_fieldAddr rfl fa59_0 rfl) ?_
        refine WB_val rfl rfl rfl rfl (R_load rfl sc3 rfl (mmD) rfl) ?_
        refine WB_val rfl rfl rfl rfl (R_lss rfl rfl rfl) ?_
        refine WB_set (s := 246) (v := .bool false) rfl (by exact congrArg Value.bool (decide_eq_false (by omega))) ?_
        refine WB_val rfl rfl rfl rfl (R_move rfl rfl) ?_
        refine WB_val rfl rfl rfl rfl (R_fieldAddr rfl fa59_0 rfl) ?_
        refine WB_val rfl rfl rfl rfl (R_load rfl sc3 rfl (mmD) rfl) ?_
        refine WB_val rfl rfl rfl rfl (R_move rfl rfl) ?_
        refine WB_val rfl rfl rfl rfl (R_len rfl Tryz.underlying22 rfl) ?_
        refine WB_val rfl rfl rfl rfl (R_gtr rfl rfl rfl) ?_
        refine WB_set (s := 252) (v := .bool false) rfl (by exact congrArg Value.bool (decide_eq_false (by omega))) ?_
        refine WB_val rfl rfl rfl rfl (R_pickF rfl rfl rfl) ?_
        refine WB_val rfl rfl rfl rfl (R_move rfl rfl) ?_
        refine WB_val rfl rfl rfl rfl (R_fieldAddr rfl fa59_2 rfl) ?_
        refine WB_val rfl rfl rfl rfl (R_load rfl sc23 rfl (mmD) rfl) ?_
        refine WB_val rfl rfl rfl rfl (R_byteStr rfl Tryz.underlying23 Tryz.underlying5 Tryz.underlying9 rfl (RdB.own ownu) mmD) ?_
        refine WB_val rfl rfl rfl rfl (R_move rfl rfl) ?_
        refine WB_val rfl rfl rfl rfl (R_fieldAddr rfl fa59_0 rfl) ?_
        refine WB_val rfl rfl rfl rfl (R_load rfl sc3 rfl (mmD) rfl) ?_
        refine WB_val rfl rfl rfl rfl (R_subR (r := ((u.m : Nat) : Int)) rfl rfl rfl (by rw [hid, wrap64_in (by omega) (by omega)]; omega)) ?_
        refine WB_val rfl rfl rfl rfl (R_indexAddrN rfl Tryz.underlying22 Tryz.sizeOf23 rfl rfl (by omega)) ?_
        refine WB_val rfl rfl rfl rfl (R_loadG rfl sc23 rfl (pulls_mem (pqD : Pulls DH _ _) hlm) (hlat u.m mv hmv)) ?_
        refine WB_val rfl rfl rfl rfl (R_byteStr rfl Tryz.underlying23 Tryz.underlying5 Tryz.underlying9 rfl hrd (pulls_mem (pqD : Pulls DH _ _) hen)) ?_
        refine WB_val rfl rfl rfl rfl (R_strNe rfl Tryz.underlying9 rfl rfl) ?_
        refine WB_set (s := 265) (v := .bool false) rfl (by exact congrArg Value.bool (decide_eq_false (fun e => e (by rw [hmb])))) ?_
        refine WB_val rfl rfl rfl rfl (R_pickF rfl rfl rfl) ?_
        refine WB_val rfl rfl rfl rfl (R_move rfl rfl) ?_
        refine WB_val rfl rfl rfl rfl (R_move rfl rfl) ?_
        refine WB_val rfl rfl rfl rfl (R_fieldAddr rfl fa59_0 rfl) ?_
        refine WB_val rfl rfl rfl rfl (R_load rfl sc3 rfl (mmD) rfl) ?_
        refine WB_set (s := 270) (v := .int .i64 ((u.m + 1 : Nat) : Int)) rfl (by rw [hid]) ?_
        refine WB_val rfl rfl rfl rfl (R_fieldAddr rfl fa59_2 rfl) ?_
        refine WB_val rfl rfl rfl rfl (R_load rfl sc23 rfl (mmD) rfl) ?_
        refine WB_val rfl rfl rfl rfl (R_fieldAddr rfl fa59_2 rfl) ?_
        refine WB_val rfl rfl rfl rfl (R_load rfl sc23 rfl (mmD) rfl) ?_
        refine WB_val rfl rfl rfl rfl (R_len rfl Tryz.underlying23 rfl) ?_
        refine WB_val rfl rfl rfl rfl (R_conv (r := ((lenB u.bd).toNat : Int)) rfl Tryz.underlying3 Tryz.underlying5 rfl (u8_of _)) ?_
        refine WB_do rfl rfl rfl rfl (.cons rfl rfl (B_buildSlice rfl si23 rfl rfl rfl) .nil) (fun _ => D_appendIn rfl si23 rfl rfl (inn_of (RdB.own ownu) mmD) (by rw [Nat.mul_one]; exact bvs_len u.bd) (by omega) (by omega)) ?_
        rintro _ _ ⟨o5, c5, tl5, rfl, own5, rfl⟩
        refine ⟨⟨_, pqD⟩, ?_⟩
        refine WB_birth rfl rfl rfl rfl .nil (B_buildSlice rfl si23 rfl rfl rfl) (fun b4 => ?_)
        refine WB_do rfl rfl rfl rfl .nil (fun _ => D_appendBO rfl si23 rfl own5 plD rfl (RdB.blk b4 [lenB u.bd]) mmD (by simp; omega) (by simp; omega)) ?_
        rintro _ _ ⟨o6, c6, tl6, rfl, own6, rfl⟩
        refine ⟨⟨_, pqD⟩, ?_⟩
        rw [← bvs_app, show u.bd.length + [lenB u.bd].length = (u.bd ++ [lenB u.bd]).length from by simp] at own6 ⊢
        have hT11 := hTu.e11 hbd hmJ
        refine WB_do rfl rfl rfl rfl .nil (fun _ => D_call (t_reply hgu hB (by omega) hmJ hbd (by omega) (by omega) (RdB.own own6)) rfl rfl rfl rfl (pqD)) ?_
        rintro _ _ ⟨_, ⟨gs4, hgs4, rfl, rfl⟩, rfl⟩
        refine ⟨⟨_, pqD⟩, ?_⟩
        refine WB_val rfl rfl rfl rfl (R_neq rfl rfl rfl) ?_
        refine WB_set (s := 281) (v := .bool false) rfl (by rfl) ?_
        refine WB_val rfl rfl rfl rfl (R_pickF rfl rfl rfl) ?_
        refine WB_nil ?_
        refine WQ_code ?_
        refine WC_F rfl ?_
        refine WC_skip ?_
        refine WQ_code ?_
        refine WC_seq ?_
        refine WC_seq ?_
        refine WC_region ?_
        refine WL_val rfl rfl rfl (R_loadA (vs := [_, _, _]) rfl ag59 rfl (mmD) rfl (atZ)) ?_
        refine WL_nil ?_
        refine WQ_code ?_
        refine WC_region ?_
        refine WL_do rfl rfl rfl (D_alloc rfl zv59) ?_
        rintro _ _ ⟨b5, rfl, rfl⟩
        refine WL_do0 rfl rfl (D_store (vs := [_, _, _]) rfl Tryz.sizeOf59 rfl rfl rfl rfl rfl (plD) (by exact Nat.le_of_ble_eq_true rfl)) ?_
        rintro _ _ rfl
        refine WL_nil ?_
        refine WQ_code ?_
        refine WC_region ?_
        refine WL_val rfl rfl rfl (R_move rfl rfl) ?_
        refine WL_do rfl rfl rfl (D_call (t_snext hgs4 (pvb_S (by omega) (by have h1 := hT11.1.lens hB; omega) (by omega) (by have := sl_len Bd (u.m + 1) J; omega) (by omega) (by have := sl_len Bd (u.m + 1) J; omega)) ⟨by omega, hJ2⟩) rfl rfl rfl rfl (pqD)) ?_
        rintro _ _ ⟨_, ⟨gs5, o7, c7, tl7, id7, dl7, bd7, hgs5, own7, hcur7, rfl, rfl⟩, rfl⟩
        refine WL_val rfl rfl rfl (R_move rfl rfl) ?_
        refine WL_val rfl rfl rfl (R_extract rfl rfl rfl) ?_
        refine WL_val rfl rfl rfl (R_extract rfl rfl rfl) ?_
        refine WL_do0 rfl rfl (D_store (vs := [_, _, _]) rfl Tryz.sizeOf59 rfl rfl rfl rfl rfl (plD) (by exact Nat.le_of_ble_eq_true rfl)) ?_
        rintro _ _ rfl
        refine WL_val rfl rfl rfl (R_assign rfl rfl) ?_
        refine WL_nil ?_
        refine WQ_nextF (gg := u) (⟨u.m + 1, gs5, u.so ++ encF 17 (rpF (u.m + 1) u.bd).b, id7, dl7, bd7, o7, c7, tl7, b5⟩) (⟨by dsimp only; omega, by dsimp only; omega, hgs5, hcur7, own7, hT11.1, by rw [hT11.2]; exact hPu⟩) (by dsimp only; omega) leZ (psZ) rfl (pqD)
      · have hmE : u.m = J := by omega
        subst hmE
        rw [sl_nil Bd (Nat.le_refl _), sl_nil Bd (Nat.le_succ _)] at hgu
        refine WC_exit ?_
        refine WQ_code ?_
        refine WC_seq ?_
        refine WC_region ?_
        refine WL_val rfl rfl rfl (R_move rfl rfl) ?_
        refine WL_do rfl rfl rfl (D_call (t_cnext hgc2 (pcb_S (by omega) (Nat.zero_le _) (by omega) (by rw [List.length_drop]; omega) (by omega) (by rw [tMk_len]; have := sl_len Bd y.i I9; omega)) ⟨hI1, by omega⟩) rfl rfl rfl rfl (pqD)) ?_
        rintro _ _ ⟨_, ⟨gc3, o4, c4, tl4, id4, bd4, hgc3, own4, hcur4, rfl, rfl⟩, rfl⟩
        refine WL_val rfl rfl rfl (R_move rfl rfl) ?_
        refine WL_val rfl rfl rfl (R_extract rfl rfl rfl) ?_
        refine WL_val rfl rfl rfl (R_extract rfl rfl rfl) ?_
        refine WL_do rfl rfl rfl (D_alloc rfl zv64) ?_
        rintro _ _ ⟨b6, rfl, rfl⟩
        refine WL_do0 rfl rfl (D_store (vs := [_, _, _]) rfl Tryz.sizeOf64 rfl rfl rfl rfl rfl (plD) (by exact Nat.le_of_ble_eq_true rfl)) ?_
        rintro _ _ rfl
        refine WL_val rfl rfl rfl (R_assign rfl rfl) ?_
        refine WL_nil ?_
        refine WQ_code ?_
        refine WC_block ?_
        refine WC_loopF (G := CwW) [6, 21, 32, 33, 289, 290, 291, 292, 293, 294, 295, 296, 297, 298, 299, 300, 301, 302, 303, 304, 305, 306, 307, 308, 309, 310, 311, 312, 313, 314, 315, 316, 317, 318, 319, 320, 321, 322, 323, 324, 325, 326, 327, 328, 329, 330, 331, 332, 333, 334, 335, 336] (fun z => y.i ≤ z.m ∧ z.m ≤ I9 ∧ CGd z.gc b1 (cS Bd.length [] cb9 (tMk caF I9 (Bd.drop I9)) (tMk rsF (z.m + 1) (sl Bd (z.m + 1) I9))) ∧ (z.m < I9 → z.id = ((z.m + 1 : Nat) : Int) ∧ ∃ b, Bd[z.m]? = some b ∧ z.bd = b ++ [lenB b]) ∧ Own z.o z.bd.length z.c 1 (bvs z.bd) z.tl) (fun z => [(33, .bool (decide (z.m < I9))), (32, ptrW z.bn), (21, .int .i64 ((L.length - z.m : Nat) : Int))]) (fun z => cH z.gc ++ [⟨some z.bn, cl [.int .i64 z.id, .int .i64 0, slV z.o z.bd.length z.c] 64⟩, ⟨z.o, cl (bvs (z.bd) ++ z.tl) 5⟩]) (fun z => I9 - z.m) (⟨y.i, gc3, id4, bd4, o4, c4, tl4, b6⟩) (⟨Nat.le_refl _, hI1, hgc3, hcur4, own4⟩) leZ (pqD) ?_
        rintro z ⟨hz1, hz2, hgz, hcz, ownz⟩
        refine WC_seq ?_
        refine WC_seq ?_
        refine WC_region ?_
        refine WL_val rfl rfl rfl (R_move rfl rfl) ?_
        refine WL_nil ?_
        refine WQ_code ?_
        refine WC_dec rfl (fun c4 => ?_) (fun c4 => ?_)
        · have hzI : z.m < I9 := c4
          obtain ⟨hid, bz, hbd, hbz⟩ := hcz hzI
          have hblz := hB.b bz (List.mem_of_getElem? hbd)
          obtain ⟨mv, hmv⟩ := getE (T := L) (i := z.m) (by omega)
          have hmb := hLB z.m mv hmv
          obtain ⟨en, hen, hrd⟩ := hdat mv (List.mem_of_getElem? hmv)
          obtain ⟨lb, lk, lcs, le, lfr, rfl, hlm, hlat⟩ := hlst (by omega)
          rw [hbd] at hmb
          have hmb : bz = mv.l := Option.some.inj hmb
          have hzbl : z.bd.length = bz.length + 1 := by rw [hbz]; simp
          have hmvl : mv.l.length ≤ 100 := by rw [← hmb]; exact hblz
          refine WC_skip ?_
          refine WQ_code ?_
          refine WC_seq ?_
          refine WC_block ?_
          refine WC_seq ?_
          refine WC_seq ?_
          refine WC_drawB _ [(0, .q), (1, .q), (2, .q), (3, .q), (4, .q), (5, .q), (6, .q), (7, .q), (8, .q), (9, .q), (10, .q), (11, .q), (12, .q), (13, .q), (14, .q), (15, .q), (16, .q), (17, .q), (18, .q), (19, .q), (20, .q), (21, .q), (22, .q), (23, .q), (24, .q), (25, .q), (26, .q), (27, .q), (28, .q), (29, .q), (30, .q), (31, .q), (32, .q), (33, .q), (34, .b []), (35, .n []), (36, .q), (37, .q), (38, .q)] followsMixed rfl rfl (by kernel_rfl) .all ?_
          refine WB_val rfl rfl rfl rfl (R_fieldAddr rfl fa64_0 rfl) ?_
          refine WB_val rfl rfl rfl rfl (R_load rfl sc3 rfl (mmD) rfl) ?_
          refine WB_val rfl rfl rfl rfl (R_lss rfl rfl rfl) ?_
          refine WB_set (s := 297) (v := .bool false) rfl (by exact congrArg Value.bool (decide_eq_false (by omega))) ?_
          refine WB_val rfl rfl rfl rfl (R_move rfl rfl) ?_
          refine WB_val rfl rfl rfl rfl (R_fieldAddr rfl fa64_0 rfl) ?_
          refine WB_val rfl rfl rfl rfl (R_load rfl sc3 rfl (mmD) rfl) ?_
          refine WB_val rfl rfl rfl rfl (R_move rfl rfl) ?_
          refine WB_val rfl rfl rfl rfl (R_len rfl Tryz.underlying22 rfl) ?_
          refine WB_val rfl rfl rfl rfl (R_gtr rfl rfl rfl) ?_
          refine WB_set (s := 303) (v := .bool false) rfl (by exact congrArg Value.bool (decide_eq_false (by omega))) ?_
          refine WB_val rfl rfl rfl rfl (R_pickF rfl rfl rfl) ?_
          refine WB_val rfl rfl rfl rfl (R_move rfl rfl) ?_
          refine WB_val rfl rfl rfl rfl (R_fieldAddr rfl fa64_1 rfl) ?_
          refine WB_val rfl rfl rfl rfl (R_load rfl sc27 rfl (mmD) rfl) ?_
          refine WB_val rfl rfl rfl rfl (R_neq rfl rfl rfl) ?_
          refine WB_set (s := 308) (v := .bool false) rfl (by rfl) ?_
          refine WB_val rfl rfl rfl rfl (R_pickF rfl rfl rfl) ?_
          refine WB_val rfl rfl rfl rfl (R_move rfl rfl) ?_
          refine WB_val rfl rfl rfl rfl (R_fieldAddr rfl fa64_2 rfl) ?_
          refine WB_val rfl rfl rfl rfl (R_load rfl sc23 rfl (mmD) rfl) ?_
          refine WB_val rfl rfl rfl rfl (R_byteStr rfl Tryz.underlying23 Tryz.underlying5 Tryz.underlying9 rfl (RdB.own ownz) mmD) ?_
          refine WB_val rfl rfl rfl rfl (R_move rfl rfl) ?_
          refine WB_val rfl rfl rfl rfl (R_fieldAddr rfl fa64_0 rfl) ?_
          refine WB_val rfl rfl rfl rfl (R_load rfl sc3 rfl (mmD) rfl) ?_
          refine WB_val rfl rfl rfl rfl (R_subR (r := ((z.m : Nat) : Int)) rfl rfl rfl (by rw [hid, wrap64_in (by omega) (by omega)]; omega)) ?_
          refine WB_val rfl rfl rfl rfl (R_indexAddrN rfl Tryz.underlying22 Tryz.sizeOf23 rfl rfl (by omega)) ?_
          refine WB_val rfl rfl rfl rfl (R_loadG rfl sc23 rfl (pulls_mem (pqD : Pulls DH _ _) hlm) (hlat z.m mv hmv)) ?_
          refine WB_val rfl rfl rfl rfl (R_byteStr rfl Tryz.underlying23 Tryz.underlying5 Tryz.underlying9 rfl hrd (pulls_mem (pqD : Pulls DH _ _) hen)) ?_
          refine WB_val rfl rfl rfl rfl (R_move rfl rfl) ?_
          refine WB_val rfl rfl rfl rfl (R_fieldAddr rfl fa64_0 rfl) ?_
          refine WB_val rfl rfl rfl rfl (R_load rfl sc3 rfl (mmD) rfl) ?_
          refine WB_val rfl rfl rfl rfl (R_subR (r := ((z.m : Nat) : Int)) rfl rfl rfl (by rw [hid, wrap64_in (by omega) (by omega)]; omega)) ?_
          refine WB_val rfl rfl rfl rfl (R_indexAddrN rfl Tryz.underlying22 Tryz.sizeOf23 rfl rfl (by omega)) ?_
          refine WB_val rfl rfl rfl rfl (R_loadG rfl sc23 rfl (pulls_mem (pqD : Pulls DH _ _) hlm) (hlat z.m mv hmv)) ?_
          refine WB_val rfl rfl rfl rfl (R_len rfl Tryz.underlying23 rfl) ?_
          refine WB_val rfl rfl rfl rfl (R_conv (r := ((lenB mv.l).toNat : Int)) rfl Tryz.underlying3 Tryz.underlying5 rfl (u8_of _)) ?_
          refine WB_birth rfl rfl rfl rfl .nil (B_buildSlice rfl si23 rfl rfl rfl) (fun b7 => ?_)
          refine WB_do rfl rfl rfl rfl .nil (fun _ => Runs.does (R_byteStr rfl Tryz.underlying23 Tryz.underlying5 Tryz.underlying9 rfl (RdB.blk b7 [lenB mv.l]) mmD)) ?_
          rintro _ _ ⟨rfl, rfl⟩
          refine ⟨⟨_, pqD⟩, ?_⟩
          refine WB_val rfl rfl rfl rfl (R_strAdd rfl rfl rfl (by simp; omega)) ?_
          refine WB_val rfl rfl rfl rfl (R_strNe rfl Tryz.underlying9 rfl rfl) ?_
          refine WB_set (s := 332) (v := .bool false) rfl (by exact congrArg Value.bool (decide_eq_false (fun e => e (by rw [hbz, hmb])))) ?_
          refine WB_val rfl rfl rfl rfl (R_pickF rfl rfl rfl) ?_
          refine WB_nil ?_
          refine WQ_code ?_
          refine WC_F rfl ?_
          refine WC_skip ?_
          refine WQ_code ?_
          refine WC_region ?_
          refine WL_val rfl rfl rfl (R_move rfl rfl) ?_
          refine WL_val rfl rfl rfl (R_subR (r := ((L.length - (z.m + 1) : Nat) : Int)) rfl rfl rfl (by rw [wrap64_in (by omega) (by omega)]; omega)) ?_
          refine WL_val rfl rfl rfl (R_assign rfl rfl) ?_
          refine WL_nil ?_
          refine WQ_code ?_
          refine WC_seq ?_
          refine WC_seq ?_
          refine WC_region ?_
          refine WL_val rfl rfl rfl (R_loadA (vs := [_, _, _]) rfl ag64 rfl (mmD) rfl (atZ)) ?_
          refine WL_nil ?_
          refine WQ_code ?_
          refine WC_region ?_
          refine WL_do rfl rfl rfl (D_alloc rfl zv64) ?_
          rintro _ _ ⟨b8, rfl, rfl⟩
          refine WL_do0 rfl rfl (D_store (vs := [_, _, _]) rfl Tryz.sizeOf64 rfl rfl rfl rfl rfl (plD) (by exact Nat.le_of_ble_eq_true rfl)) ?_
          rintro _ _ rfl
          refine WL_nil ?_
          refine WQ_code ?_
          refine WC_region ?_
          refine WL_val rfl rfl rfl (R_move rfl rfl) ?_
          refine WL_do rfl rfl rfl (D_call (t_cnext hgz (pcb_S (by omega) (Nat.zero_le _) (by omega) (by rw [List.length_drop]; omega) (by omega) (by rw [tMk_len]; have := sl_len Bd (z.m + 1) I9; omega)) ⟨by omega, by omega⟩) rfl rfl rfl rfl (pqD)) ?_
          rintro _ _ ⟨_, ⟨gc5, o10, c10, tl10, id10, bd10, hgc5, own10, hcur10, rfl, rfl⟩, rfl⟩
          refine WL_val rfl rfl rfl (R_move rfl rfl) ?_
          refine WL_val rfl rfl rfl (R_extract rfl rfl rfl) ?_
          refine WL_val rfl rfl rfl (R_extract rfl rfl rfl) ?_
          refine WL_do0 rfl rfl (D_store (vs := [_, _, _]) rfl Tryz.sizeOf64 rfl rfl rfl rfl rfl (plD) (by exact Nat.le_of_ble_eq_true rfl)) ?_
          rintro _ _ rfl
          refine WL_val rfl rfl rfl (R_assign rfl rfl) ?_
          refine WL_nil ?_
          refine WQ_nextF (gg := z) (⟨z.m + 1, gc5, id10, bd10, o10, c10, tl10, b8⟩) (⟨by dsimp only; omega, by dsimp only; omega, hgc5, hcur10, own10⟩) (by dsimp only; omega) leZ (psZ) rfl (pqD)
        · have hzE : z.m = I9 := by omega
          subst hzE
          rw [sl_nil Bd (Nat.le_succ _)] at hgz
          refine WC_exit ?_
          refine WQ_code ?_
          refine WC_region ?_
          refine WL_val rfl rfl rfl (R_move rfl rfl) ?_
          refine WL_val rfl rfl rfl (R_add rfl rfl rfl (by omega)) ?_
          refine WL_val rfl rfl rfl (R_assign rfl rfl) ?_
          refine WL_nil ?_
          refine WQ_nextL (⟨y.t + 1, ga4, gb4, z.gc, u.gs, (drX (((y.a.wr (y.P1 ++ y.co)).cut n9).put A2 bs2) [] cr2 cs2), (drX (((y.b.wr (y.P2 ++ y.so)).put A1 bs1).cut n9) [] cr1 cs1), F1b, F2b, ((y.P1 ++ y.co).drop (y.a.wq (y.P1 ++ y.co))), ((y.P2 ++ y.so).drop (y.b.wq (y.P2 ++ y.so))), [], u.so, cb9, sb9, z.m, u.m, oA, kA, cA, pA, qA, oB, kB, cB, pB, qB⟩) (⟨hga4, hgb4, hgz, hgu, hTu, hPu, ⟨rfl, rfl⟩, hOA2, hOB2⟩) (by dsimp only; omega) leZ (pqD)
end Go.Proofs.YtkcfgglmlogjbaaGreat
end
section
set_option linter.unusedVariables false
set_option maxRecDepth 20000
set_option maxHeartbeats 4000000
namespace Go.Proofs.YtkcfgglmlogjbaaGreat
theorem stacked_ok (L : List Pt) {ol : Option Addr} {cl9 : Nat} (win : Nat) (hw : 1 ≤ win ∧ win ≤ 4096) (Z : Bs) {oz : Option Addr} {cz : Nat} (DH : Heap) {Bd : List Bs} (hB : BdOk Bd) (hLl : Bd.length = L.length) (hLB : ∀ (i : Nat) (m : Pt), L[i]? = some m → Bd[i]? = some m.l) (hdat : ∀ m ∈ L, ∃ en ∈ DH, RdB m.oa en m.l)
    (hlst : 0 < L.length → ∃ b k cs e fr, ol = some ⟨b, k, none⟩ ∧ (⟨some b, .cells (List.toArray cs) e fr⟩ : Ent) ∈ DH ∧ ∀ (i : Nat) (m : Pt), L[i]? = some m → cs[k + i * 1]? = some (.slice m.oa m.l.length m.c)) (hz : ∃ en ∈ DH, RdB oz en Z) (hzl : Z.length ≤ 20) : Spec Tryz.prog 5 [.slice ol L.length cl9, .int .i64 (win : Int), .slice oz Z.length cz] DH (fun r H' => r = .bool true ∧ H' = DH) := by
  rcases Nat.eq_zero_or_pos Z.length with h | h
  · exact stacked_z L win hw Z DH hB hLl hLB hdat hlst hz hzl h
  · exact stacked_n L win hw Z DH hB hLl hLB hdat hlst hz hzl h
theorem sk_lb {b1 : Nat} (i : Nat) (m : Pt) (h : ([⟨some ⟨b1, 0, none⟩, 2, [97, 98]⟩] : List Pt)[i]? = some m) : ([[97, 98]] : List Bs)[i]? = some m.l := by
  rcases i with _ | i
  · cases h; rfl
  · cases h
theorem sk_dat (b1 b2 b3 : Nat) (fr4 : Nat × Nat) : ∀ m ∈ ([⟨some ⟨b1, 0, none⟩, 2, [97, 98]⟩] : List Pt), ∃ en ∈ ([⟨some b1, .cells (List.toArray (bvs [97, 98])) 5 fr4⟩, ⟨some b2, cl [.slice (some ⟨b1, 0, none⟩) 2 2] 23⟩, ⟨some b3, cl (bvs [1, 2]) 5⟩] : Heap), RdB m.oa en m.l := fun m hm => by
  rw [List.mem_singleton.1 hm]
  exact ⟨_, List.mem_cons_self .., fun _ => ⟨b1, 0, _, _, fr4, rfl, rfl, fun j v hj => by rw [Nat.zero_add]; exact hj⟩⟩
theorem sk_lst (b1 b2 b3 : Nat) (fr4 : Nat × Nat) : 0 < ([⟨some ⟨b1, 0, none⟩, 2, [97, 98]⟩] : List Pt).length → ∃ b k cs e fr, (some ⟨b2, 0, none⟩ : Option Addr) = some ⟨b, k, none⟩ ∧ (⟨some b, .cells (List.toArray cs) e fr⟩ : Ent) ∈ ([⟨some b1, .cells (List.toArray (bvs [97, 98])) 5 fr4⟩, ⟨some b2, cl [.slice (some ⟨b1, 0, none⟩) 2 2] 23⟩, ⟨some b3, cl (bvs [1, 2]) 5⟩] : Heap) ∧ ∀ (i : Nat) (m : Pt), ([⟨some ⟨b1, 0, none⟩, 2, [97, 98]⟩] : List Pt)[i]? = some m → cs[k + i * 1]? = some (.slice m.oa m.l.length m.c) := fun _ =>
  ⟨b2, 0, _, _, (0, 0), rfl, .tail _ (.head _), fun i m hm => by
    rcases i with _ | i
    · cases hm; rfl
    · cases hm⟩
theorem sk_z (b1 b2 b3 : Nat) (fr4 : Nat × Nat) : ∃ en ∈ ([⟨some b1, .cells (List.toArray (bvs [97, 98])) 5 fr4⟩, ⟨some b2, cl [.slice (some ⟨b1, 0, none⟩) 2 2] 23⟩, ⟨some b3, cl (bvs [1, 2]) 5⟩] : Heap), RdB (some ⟨b3, 0, none⟩) en [1, 2] := ⟨_, .tail _ (.tail _ (.head _)), RdB.blk b3 [1, 2]⟩
theorem bd_map {L : List Pt} (hl : L.length ≤ 8) (h : ∀ (k : Nat) (m : Pt), L[k]? = some m → m.l.length ≤ 100) : BdOk (L.map Pt.l) := ⟨by rw [List.length_map]; exact hl, fun b hb => by
  obtain ⟨m, hm, rfl⟩ := List.mem_map.1 hb
  obtain ⟨k, hk⟩ := List.mem_iff_getElem?.1 hm
  exact h k m hk⟩
theorem stacks_ok : Spec Tryz.prog 4 [] [] (fun r H' => r = .bool true ∧ H' = []) := by
  refine Spec.of (E := []) Tryz.func4 rfl (by kernel_rfl) Tryz.ntmps4 rfl rfl (fun w => ?_)
  refine WC_seq ?_
  refine WC_region ?_
  refine WL_val rfl rfl rfl (R_assign rfl rfl) ?_
  refine WL_nil ?_
  refine WQ_code ?_
  refine WC_seq ?_
  refine WC_region ?_
  refine WL_do rfl rfl rfl (D_buildSlice rfl si23 rfl rfl rfl) ?_
  rintro _ _ ⟨b1, rfl, rfl⟩
  refine WL_do rfl rfl rfl (D_bytesConst rfl Tryz.underlying23 Tryz.underlying5 rfl plD) ?_
  rintro _ _ ⟨fr4, rfl, rfl⟩
  refine WL_do rfl rfl rfl (D_buildSlice rfl si22 rfl rfl rfl) ?_
  rintro _ _ ⟨b2, rfl, rfl⟩
  refine WL_do rfl rfl rfl (D_buildSlice rfl si23 rfl rfl rfl) ?_
  rintro _ _ ⟨b3, rfl, rfl⟩
  refine WL_do rfl rfl rfl (D_call (stacked_ok [⟨some ⟨b1, 0, none⟩, 2, [97, 98]⟩] 3 (by decide) [1, 2] [⟨some b1, .cells (List.toArray (bvs [97, 98])) 5 fr4⟩, ⟨some b2, cl [.slice (some ⟨b1, 0, none⟩) 2 2] 23⟩, ⟨some b3, cl (bvs [1, 2]) 5⟩] (Bd := [[97, 98]]) ⟨by decide, by decide⟩ rfl sk_lb (sk_dat b1 b2 b3 fr4) (sk_lst b1 b2 b3 fr4) (sk_z b1 b2 b3 fr4) (by decide)) rfl rfl rfl rfl (pqD)) ?_
  rintro _ _ ⟨_, ⟨rfl, rfl⟩, rfl⟩
  refine WL_val rfl rfl rfl (R_assign rfl rfl) ?_
  refine WL_nil ?_
  refine WQ_code ?_
  refine WC_ret ?_
  refine WQ_ret rfl rfl (.cons (.tmp rfl) .nil) rfl (by
      exact ⟨rfl, rfl⟩) (pqD)
section
variable (L : List Pt) {ol : Option Addr} {cl9 : Nat} (Z : Bs) {oz : Option Addr} {cz : Nat} (DH : Heap) (w : Int)
theorem top_a (hl : L.length ≤ 9223372036854775807) (hzm : Z.length ≤ 9223372036854775807) (hbad : 8 < L.length ∨ w < 1 ∨ 4096 < w ∨ 20 < Z.length) : Spec Tryz.prog 3 [.slice ol L.length cl9, .int .i64 w, .slice oz Z.length cz] DH (fun r H' => r = .bool true ∧ H' = DH) := by
  by_cases h1 : 8 < L.length
  · refine Spec.of (E := [(0, .slice ol L.length cl9), (1, .int .i64 w), (2, .slice oz Z.length cz)]) Tryz.func3 rfl (by kernel_rfl) Tryz.ntmps3 rfl rfl (fun w => ?_)
    refine WC_seq ?_
    refine WC_region ?_
    refine WL_val rfl rfl rfl (R_assign rfl rfl) ?_
    refine WL_nil ?_
    refine WQ_code ?_
    refine WC_seq ?_
    refine WC_seq ?_
    refine WC_region ?_
    refine WL_val rfl rfl rfl (R_move rfl rfl) ?_
    refine WL_val rfl rfl rfl (R_len rfl Tryz.underlying22 rfl) ?_
    refine WL_val rfl rfl rfl (R_gtr rfl rfl rfl) ?_
    refine WL_set (s := 10) (v := .bool true) rfl (by exact congrArg Value.bool (decide_eq_true (by omega))) ?_
    refine WL_val rfl rfl rfl (R_move rfl rfl) ?_
    refine WL_skip rfl rfl rfl ?_
    refine WL_skip rfl rfl rfl ?_
    refine WL_val rfl rfl rfl (R_pickT rfl rfl rfl) ?_
    refine WL_val rfl rfl rfl (R_move rfl rfl) ?_
    refine WL_skip rfl rfl rfl ?_
    refine WL_skip rfl rfl rfl ?_
    refine WL_val rfl rfl rfl (R_pickT rfl rfl rfl) ?_
    refine WL_val rfl rfl rfl (R_move rfl rfl) ?_
    refine WL_skip rfl rfl rfl ?_
    refine WL_skip rfl rfl rfl ?_
    refine WL_skip rfl rfl rfl ?_
    refine WL_val rfl rfl rfl (R_pickT rfl rfl rfl) ?_
    refine WL_set (s := 23) (v := .bool true) rfl (by rfl) ?_
    refine WL_nil ?_
    refine WQ_code ?_
    refine WC_T rfl ?_
    refine WC_seq ?_
    refine WC_region ?_
    refine WL_do rfl rfl rfl (D_call (stacks_ok) rfl rfl rfl rfl (pqD)) ?_
    rintro _ _ ⟨_, ⟨rfl, rfl⟩, rfl⟩
    refine WL_val rfl rfl rfl (R_assign rfl rfl) ?_
    refine WL_nil ?_
    refine WQ_code ?_
    refine WC_ret ?_
    refine WQ_ret rfl rfl (.cons (.tmp rfl) .nil) rfl (by
        exact ⟨rfl, rfl⟩) (pqD)
  by_cases h2 : w < 1
  · refine Spec.of (E := [(0, .slice ol L.length cl9), (1, .int .i64 w), (2, .slice oz Z.length cz)]) Tryz.func3 rfl (by kernel_rfl) Tryz.ntmps3 rfl rfl (fun w => ?_)
    refine WC_seq ?_
    refine WC_region ?_
    refine WL_val rfl rfl rfl (R_assign rfl rfl) ?_
    refine WL_nil ?_
    refine WQ_code ?_
    refine WC_seq ?_
    refine WC_seq ?_
    refine WC_region ?_
    refine WL_val rfl rfl rfl (R_move rfl rfl) ?_
    refine WL_val rfl rfl rfl (R_len rfl Tryz.underlying22 rfl) ?_
    refine WL_val rfl rfl rfl (R_gtr rfl rfl rfl) ?_
    refine WL_set (s := 10) (v := .bool false) rfl (by exact congrArg Value.bool (decide_eq_false (by omega))) ?_
    refine WL_val rfl rfl rfl (R_move rfl rfl) ?_
    refine WL_val rfl rfl rfl (R_move rfl rfl) ?_
    refine WL_val rfl rfl rfl (R_lss rfl rfl rfl) ?_
    refine WL_set (s := 13) (v := .bool true) rfl (by exact congrArg Value.bool (decide_eq_true (by omega))) ?_
    refine WL_val rfl rfl rfl (R_pickF rfl rfl rfl) ?_
    refine WL_val rfl rfl rfl (R_move rfl rfl) ?_
    refine WL_skip rfl rfl rfl ?_
    refine WL_skip rfl rfl rfl ?_
    refine WL_val rfl rfl rfl (R_pickT rfl rfl rfl) ?_
    refine WL_val rfl rfl rfl (R_move rfl rfl) ?_
    refine WL_skip rfl rfl rfl ?_
    refine WL_skip rfl rfl rfl ?_
    refine WL_skip rfl rfl rfl ?_
    refine WL_val rfl rfl rfl (R_pickT rfl rfl rfl) ?_
    refine WL_nil ?_
    refine WQ_code ?_
    refine WC_T rfl ?_
    refine WC_seq ?_
    refine WC_region ?_
    refine WL_do rfl rfl rfl (D_call (stacks_ok) rfl rfl rfl rfl (pqD)) ?_
    rintro _ _ ⟨_, ⟨rfl, rfl⟩, rfl⟩
    refine WL_val rfl rfl rfl (R_assign rfl rfl) ?_
    refine WL_nil ?_
    refine WQ_code ?_
    refine WC_ret ?_
    refine WQ_ret rfl rfl (.cons (.tmp rfl) .nil) rfl (by
        exact ⟨rfl, rfl⟩) (pqD)
  by_cases h3 : 4096 < w
  · refine Spec.of (E := [(0, .slice ol L.length cl9), (1, .int .i64 w), (2, .slice oz Z.length cz)]) Tryz.func3 rfl (by kernel_rfl) Tryz.ntmps3 rfl rfl (fun w => ?_)
    refine WC_seq ?_
    refine WC_region ?_
    refine WL_val rfl rfl rfl (R_assign rfl rfl) ?_
    refine WL_nil ?_
    refine WQ_code ?_
    refine WC_seq ?_
    refine WC_seq ?_
    refine WC_region ?_
    refine WL_val rfl rfl rfl (R_move rfl rfl) ?_
    refine WL_val rfl rfl rfl (R_len rfl Tryz.underlying22 rfl) ?_
    refine WL_val rfl rfl rfl (R_gtr rfl rfl rfl) ?_
    refine WL_set (s := 10) (v := .bool false) rfl (by exact congrArg Value.bool (decide_eq_false (by omega))) ?_
    refine WL_val rfl rfl rfl (R_move rfl rfl) ?_
    refine WL_val rfl rfl rfl (R_move rfl rfl) ?_
    refine WL_val rfl rfl rfl (R_lss rfl rfl rfl) ?_
    refine WL_set (s := 13) (v := .bool false) rfl (by exact congrArg Value.bool (decide_eq_false (by omega))) ?_
    refine WL_val rfl rfl rfl (R_pickF rfl rfl rfl) ?_
    refine WL_val rfl rfl rfl (R_move rfl rfl) ?_
    refine WL_val rfl rfl rfl (R_move rfl rfl) ?_
    refine WL_val rfl rfl rfl (R_gtr rfl rfl rfl) ?_
    refine WL_set (s := 17) (v := .bool true) rfl (by exact congrArg Value.bool (decide_eq_true (by omega))) ?_
    refine WL_val rfl rfl rfl (R_pickF rfl rfl rfl) ?_
    refine WL_val rfl rfl rfl (R_move rfl rfl) ?_
    refine WL_skip rfl rfl rfl ?_
    refine WL_skip rfl rfl rfl ?_
    refine WL_skip rfl rfl rfl ?_
    refine WL_val rfl rfl rfl (R_pickT rfl rfl rfl) ?_
    refine WL_nil ?_
    refine WQ_code ?_
    refine WC_T rfl ?_
    refine WC_seq ?_
    refine WC_region ?_
    refine WL_do rfl rfl rfl (D_call (stacks_ok) rfl rfl rfl rfl (pqD)) ?_
    rintro _ _ ⟨_, ⟨rfl, rfl⟩, rfl⟩
    refine WL_val rfl rfl rfl (R_assign rfl rfl) ?_
    refine WL_nil ?_
    refine WQ_code ?_
    refine WC_ret ?_
    refine WQ_ret rfl rfl (.cons (.tmp rfl) .nil) rfl (by
        exact ⟨rfl, rfl⟩) (pqD)
  · have h4 : 20 < Z.length := by omega
    refine Spec.of (E := [(0, .slice ol L.length cl9), (1, .int .i64 w), (2, .slice oz Z.length cz)]) Tryz.func3 rfl (by kernel_rfl) Tryz.ntmps3 rfl rfl (fun w => ?_)
    refine WC_seq ?_
    refine WC_region ?_
    refine WL_val rfl rfl rfl (R_assign rfl rfl) ?_
    refine WL_nil ?_
    refine WQ_code ?_
    refine WC_seq ?_
    refine WC_seq ?_
    refine WC_region ?_
    refine WL_val rfl rfl rfl (R_move rfl rfl) ?_
    refine WL_val rfl rfl rfl (R_len rfl Tryz.underlying22 rfl) ?_
    refine WL_val rfl rfl rfl (R_gtr rfl rfl rfl) ?_
    refine WL_set (s := 10) (v := .bool false) rfl (by exact congrArg Value.bool (decide_eq_false (by omega))) ?_
    refine WL_val rfl rfl rfl (R_move rfl rfl) ?_
    refine WL_val rfl rfl rfl (R_move rfl rfl) ?_
    refine WL_val rfl rfl rfl (R_lss rfl rfl rfl) ?_
    refine WL_set (s := 13) (v := .bool false) rfl (by exact congrArg Value.bool (decide_eq_false (by omega))) ?_
    refine WL_val rfl rfl rfl (R_pickF rfl rfl rfl) ?_
    refine WL_val rfl rfl rfl (R_move rfl rfl) ?_
    refine WL_val rfl rfl rfl (R_move rfl rfl) ?_
    refine WL_val rfl rfl rfl (R_gtr rfl rfl rfl) ?_
    refine WL_set (s := 17) (v := .bool false) rfl (by exact congrArg Value.bool (decide_eq_false (by omega))) ?_
    refine WL_val rfl rfl rfl (R_pickF rfl rfl rfl) ?_
    refine WL_val rfl rfl rfl (R_move rfl rfl) ?_
    refine WL_val rfl rfl rfl (R_move rfl rfl) ?_
    refine WL_val rfl rfl rfl (R_len rfl Tryz.underlying23 rfl) ?_
    refine WL_val rfl rfl rfl (R_gtr rfl rfl rfl) ?_
    refine WL_set (s := 22) (v := .bool true) rfl (by exact congrArg Value.bool (decide_eq_true (by omega))) ?_
    refine WL_val rfl rfl rfl (R_pickF rfl rfl rfl) ?_
    refine WL_nil ?_
    refine WQ_code ?_
    refine WC_T rfl ?_
    refine WC_seq ?_
    refine WC_region ?_
    refine WL_do rfl rfl rfl (D_call (stacks_ok) rfl rfl rfl rfl (pqD)) ?_
    rintro _ _ ⟨_, ⟨rfl, rfl⟩, rfl⟩
    refine WL_val rfl rfl rfl (R_assign rfl rfl) ?_
    refine WL_nil ?_
    refine WQ_code ?_
    refine WC_ret ?_
    refine WQ_ret rfl rfl (.cons (.tmp rfl) .nil) rfl (by
        exact ⟨rfl, rfl⟩) (pqD)
end
theorem top_b (L : List Pt) {ol : Option Addr} {cl9 : Nat} (win : Nat) (hw : 1 ≤ win ∧ win ≤ 4096) (Z : Bs) {oz : Option Addr} {cz : Nat} (DH : Heap) (hdat : ∀ m ∈ L, ∃ en ∈ DH, RdB m.oa en m.l)
    (hlst : 0 < L.length → ∃ b k cs e fr, ol = some ⟨b, k, none⟩ ∧ (⟨some b, .cells (List.toArray cs) e fr⟩ : Ent) ∈ DH ∧ ∀ (i : Nat) (m : Pt), L[i]? = some m → cs[k + i * 1]? = some (.slice m.oa m.l.length m.c)) (hz : ∃ en ∈ DH, RdB oz en Z) (hzl : Z.length ≤ 20) (hml : ∀ m ∈ L, m.l.length ≤ 9223372036854775807) (hl8 : L.length ≤ 8) : Spec Tryz.prog 3 [.slice ol L.length cl9, .int .i64 (win : Int), .slice oz Z.length cz] DH (fun r H' => r = .bool true ∧ H' = DH) := by
  refine Spec.of (E := [(0, .slice ol L.length cl9), (1, .int .i64 (win : Int)), (2, .slice oz Z.length cz)]) Tryz.func3 rfl (by kernel_rfl) Tryz.ntmps3 rfl rfl (fun w => ?_)
  refine WC_seq ?_
  refine WC_region ?_
  refine WL_val rfl rfl rfl (R_assign rfl rfl) ?_
  refine WL_nil ?_
  refine WQ_code ?_
  refine WC_seq ?_
  refine WC_seq ?_
  refine WC_region ?_
  refine WL_val rfl rfl rfl (R_move rfl rfl) ?_
  refine WL_val rfl rfl rfl (R_len rfl Tryz.underlying22 rfl) ?_
  refine WL_val rfl rfl rfl (R_gtr rfl rfl rfl) ?_
  refine WL_set (s := 10) (v := .bool false) rfl (by exact congrArg Value.bool (decide_eq_false (by omega))) ?_
  refine WL_val rfl rfl rfl (R_move rfl rfl) ?_
  refine WL_val rfl rfl rfl (R_move rfl rfl) ?_
  refine WL_val rfl rfl rfl (R_lss rfl rfl rfl) ?_
  refine WL_set (s := 13) (v := .bool false) rfl (by exact congrArg Value.bool (decide_eq_false (by omega))) ?_
  refine WL_val rfl rfl rfl (R_pickF rfl rfl rfl) ?_
  refine WL_val rfl rfl rfl (R_move rfl rfl) ?_
  refine WL_val rfl rfl rfl (R_move rfl rfl) ?_
  refine WL_val rfl rfl rfl (R_gtr rfl rfl rfl) ?_
  refine WL_set (s := 17) (v := .bool false) rfl (by exact congrArg Value.bool (decide_eq_false (by omega))) ?_
  refine WL_val rfl rfl rfl (R_pickF rfl rfl rfl) ?_
  refine WL_val rfl rfl rfl (R_move rfl rfl) ?_
  refine WL_val rfl rfl rfl (R_move rfl rfl) ?_
  refine WL_val rfl rfl rfl (R_len rfl Tryz.underlying23 rfl) ?_
  refine WL_val rfl rfl rfl (R_gtr rfl rfl rfl) ?_
  refine WL_set (s := 22) (v := .bool false) rfl (by exact congrArg Value.bool (decide_eq_false (by omega))) ?_
  refine WL_val rfl rfl rfl (R_pickF rfl rfl rfl) ?_
  refine WL_nil ?_
  refine WQ_code ?_
  refine WC_F rfl ?_
  refine WC_skip ?_
  refine WQ_code ?_
  refine WC_seq ?_
  refine WC_seq ?_
  refine WC_region ?_
  refine WL_val rfl rfl rfl (R_assign rfl rfl) ?_
  refine WL_nil ?_
  refine WQ_code ?_
  refine WC_block ?_
  refine WC_loopF (G := Nat) [6, 7, 25, 26, 27, 28, 29, 30, 31, 32, 33, 34, 35, 36, 37] (fun q => q ≤ L.length ∧ ∀ k m, k < q → L[k]? = some m → m.l.length ≤ 100) (fun q => [(7, .int .i64 (q : Int))]) (fun q => []) (fun q => L.length - q) (0) (⟨Nat.zero_le _, fun k m h => absurd h (Nat.not_lt_zero _)⟩) leZ (pqD) ?_
  rintro q ⟨hq, hq2⟩
  refine WC_seq ?_
  refine WC_seq ?_
  refine WC_region ?_
  refine WL_val rfl rfl rfl (R_move rfl rfl) ?_
  refine WL_val rfl rfl rfl (R_move rfl rfl) ?_
  refine WL_val rfl rfl rfl (R_len rfl Tryz.underlying22 rfl) ?_
  refine WL_val rfl rfl rfl (R_lss rfl rfl rfl) ?_
  refine WL_nil ?_
  refine WQ_code ?_
  refine WC_dec rfl (fun c1 => ?_) (fun c1 => ?_)
  · refine WC_skip ?_
    refine WQ_code ?_
    refine WC_seq ?_
    refine WC_block ?_
    refine WC_seq ?_
    refine WC_region ?_
    refine WL_val rfl rfl rfl (R_move rfl rfl) ?_
    refine WL_val rfl rfl rfl (R_move rfl rfl) ?_
    obtain ⟨mv, hmv⟩ := getE (T := L) (i := q) (by omega)
    have hmvl := hml mv (List.mem_of_getElem? hmv)
    obtain ⟨lb, lk, lcs, le, lfr, rfl, hlm, hlat⟩ := hlst (by omega)
    refine WL_val rfl rfl rfl (R_indexAddrN rfl Tryz.underlying22 Tryz.sizeOf23 rfl rfl (by omega)) ?_
    refine WL_val rfl rfl rfl (R_loadG rfl sc23 rfl (pulls_mem (pqD : Pulls DH _ _) hlm) (hlat q mv hmv)) ?_
    refine WL_val rfl rfl rfl (R_len rfl Tryz.underlying23 rfl) ?_
    refine WL_val rfl rfl rfl (R_gtr rfl rfl rfl) ?_
    refine WL_nil ?_
    refine WQ_code ?_
    refine WC_dec rfl (fun c2 => ?_) (fun c2 => ?_)
    · refine WC_seq ?_
      refine WC_region ?_
      refine WL_do rfl rfl rfl (D_call (stacks_ok) rfl rfl rfl rfl (pqD)) ?_
      rintro _ _ ⟨_, ⟨rfl, rfl⟩, rfl⟩
      refine WL_val rfl rfl rfl (R_assign rfl rfl) ?_
      refine WL_nil ?_
      refine WQ_code ?_
      refine WC_ret ?_
      refine WQ_ret rfl rfl (.cons (.tmp rfl) .nil) rfl (by
          exact ⟨rfl, rfl⟩) (pqD)
    · refine WC_skip ?_
      refine WQ_code ?_
      refine WC_region ?_
      refine WL_val rfl rfl rfl (R_move rfl rfl) ?_
      refine WL_val rfl rfl rfl (R_add rfl rfl rfl (by omega)) ?_
      refine WL_val rfl rfl rfl (R_assign rfl rfl) ?_
      refine WL_nil ?_
      refine WQ_nextF (gg := q) (q + 1) (⟨by omega, fun k m hk hm => by rcases Nat.lt_or_ge k q with h | h; exact hq2 k m h hm; (have : k = q := by omega); subst this; rw [hmv] at hm; cases hm; omega⟩) (by omega) leZ (psZ) rfl (pqD)
  · have hqL : q = L.length := by omega
    have hB : BdOk (L.map Pt.l) := bd_map hl8 (fun k m hm => hq2 k m (by have := (List.getElem?_eq_some_iff.1 hm).1; omega) hm)
    refine WC_exit ?_
    refine WQ_code ?_
    refine WC_seq ?_
    refine WC_region ?_
    refine WL_val rfl rfl rfl (R_move rfl rfl) ?_
    refine WL_val rfl rfl rfl (R_move rfl rfl) ?_
    refine WL_val rfl rfl rfl (R_move rfl rfl) ?_
    refine WL_do rfl rfl rfl (D_call (stacked_ok L win hw Z DH hB (List.length_map ..) (fun i m hm => by rw [List.getElem?_map, hm]; rfl) hdat hlst hz hzl) rfl rfl rfl rfl (pqD)) ?_
    rintro _ _ ⟨_, ⟨rfl, rfl⟩, rfl⟩
    refine WL_val rfl rfl rfl (R_move rfl rfl) ?_
    refine WL_do rfl rfl rfl (D_call (stacks_ok) rfl rfl rfl rfl (pqD)) ?_
    rintro _ _ ⟨_, ⟨rfl, rfl⟩, rfl⟩
    refine WL_val rfl rfl rfl (R_pickT rfl rfl rfl) ?_
    refine WL_val rfl rfl rfl (R_assign rfl rfl) ?_
    refine WL_nil ?_
    refine WQ_code ?_
    refine WC_ret ?_
    refine WQ_ret rfl rfl (.cons (.tmp rfl) .nil) rfl (by
        exact ⟨rfl, rfl⟩) (pqD)
theorem top_ok (L : List Pt) {ol : Option Addr} {cl9 : Nat} (Z : Bs) {oz : Option Addr} {cz : Nat} (DH : Heap) (hdat : ∀ m ∈ L, ∃ en ∈ DH, RdB m.oa en m.l)
    (hlst : 0 < L.length → ∃ b k cs e fr, ol = some ⟨b, k, none⟩ ∧ (⟨some b, .cells (List.toArray cs) e fr⟩ : Ent) ∈ DH ∧ ∀ (i : Nat) (m : Pt), L[i]? = some m → cs[k + i * 1]? = some (.slice m.oa m.l.length m.c)) (hz : ∃ en ∈ DH, RdB oz en Z) (w : Int) (hl : L.length ≤ 9223372036854775807) (hzm : Z.length ≤ 9223372036854775807) (hml : ∀ m ∈ L, m.l.length ≤ 9223372036854775807) : Spec Tryz.prog 3 [.slice ol L.length cl9, .int .i64 w, .slice oz Z.length cz] DH (fun r H' => r = .bool true ∧ H' = DH) := by
  by_cases hbad : 8 < L.length ∨ w < 1 ∨ 4096 < w ∨ 20 < Z.length
  · exact top_a L Z DH w hl hzm hbad
  · obtain ⟨win, rfl⟩ : ∃ n : Nat, w = n := ⟨w.toNat, by omega⟩
    exact top_b L win (by omega) Z DH hdat hlst hz (by omega) hml (by omega)
end Go.Proofs.YtkcfgglmlogjbaaGreat
end
section
set_option linter.unusedVariables false
set_option maxRecDepth 20000
namespace Go.Proofs.YtkcfgglmlogjbaaGreat
open Go.ChangeShapes Go.WideShapes Go.ChangeAt Go.RowKit Go.Joins Go.Deep
theorem decB {H : Type} {enc : TypeId × Value → H} {W : World} {sp : Nat → Bool} {held : Bool} (m : Nat) (cs : List Value) (y : DataW H × List MemPlace) (h : DataW.trod enc Tryz.prog W 0 sp held m 5 cs = some y) : ∃ x : UInt8, cs = encY x ∧ True := by
  obtain ⟨n, rfl, _, w⟩ := DataW.trod_int Tryz.underlying5 h
  obtain ⟨k, rfl, hk⟩ := wf_u8 w
  exact ⟨UInt8.ofNat k, by show [Value.int .u8 (k : Int)] = [Value.int .u8 ((UInt8.ofNat k).toNat : Int)]; rw [UInt8.toNat_ofNat', Nat.mod_eq_of_lt hk], trivial⟩
theorem RdB.arg {oa : Option Addr} {x : Ent} {l : Bs} (h : Arg oa x 1 encY l) : RdB oa x l := fun hl => by
  rcases h with ⟨h, _⟩ | ⟨b, k, cs, e, fr, h1, h2, h3⟩
  · rw [h] at hl; exact absurd hl (by simp)
  · refine ⟨b, k, cs, e, fr, h1, h2, fun j v hj => ?_⟩
    have hlt := (List.getElem?_eq_some_iff.1 hj).1
    rw [bvs_len] at hlt
    obtain ⟨y, hy⟩ : ∃ y, l[j]? = some y := ⟨_, List.getElem?_eq_getElem hlt⟩
    rw [bvs_get hy] at hj
    have := h3 j y hy 0 v (by simpa using hj)
    rwa [Nat.mul_one, Nat.add_zero] at this
theorem decPt {H : Type} {enc : TypeId × Value → H} {W : World} {sp : Nat → Bool} {held : Bool} (m : Nat) (cs : List Value) (y : DataW H × List MemPlace) (h : DataW.trod enc Tryz.prog W 0 sp held m 23 cs = some y) : ∃ x : Pt, cs = encT x ∧ ∃ en, (Arg x.oa en 1 encY x.l ∧ x.l.length ≤ maxLen) ∧ en.ok W := by
  obtain ⟨oa, en, l, c, rfl, h1, h2, h3, _⟩ := open_argT (enc' := encY) (G := fun _ => True) (sz := 1) Tryz.underlying23 (by kernel_rfl) (by omega) (fun m cs y h => decB m cs y h) h
  exact ⟨⟨oa, c, l⟩, rfl, en, ⟨h1, h3⟩, h2⟩
theorem entsT {W : World} {P : Pt → Ent → Prop} : ∀ l : List Pt, (∀ x ∈ l, ∃ e, P x e ∧ e.ok W) → ∃ es : List Ent, (∀ e ∈ es, e.ok W) ∧ ∀ x ∈ l, ∃ e ∈ es, P x e
  | [], _ => ⟨[], (fun e he => by cases he), fun x hx => by cases hx⟩
  | x :: l, h => by
    obtain ⟨es, h1, h2⟩ := entsT l fun y hy => h y (List.mem_cons_of_mem _ hy)
    obtain ⟨e, h3, h4⟩ := h x (List.mem_cons_self ..)
    refine ⟨e :: es, fun y hy => ?_, fun y hy => ?_⟩
    · rcases List.mem_cons.1 hy with rfl | hy
      · exact h4
      · exact h1 y hy
    · rcases List.mem_cons.1 hy with rfl | hy
      · exact ⟨e, List.mem_cons_self .., h3⟩
      · obtain ⟨e9, h5, h6⟩ := h2 y hy
        exact ⟨e9, List.mem_cons_of_mem _ h5, h6⟩
theorem dedupT {W : World} : ∀ es : List Ent, (∀ e ∈ es, e.ok W) → ∃ DH, HOK DH W ∧ ∀ e ∈ es, e ∈ DH
  | [], _ => ⟨[], ⟨by simp [keys], fun x hx => by cases hx⟩, fun e he => by cases he⟩
  | e :: es, h => by
    obtain ⟨DH, hok, hall⟩ := dedupT es fun x hx => h x (List.mem_cons_of_mem _ hx)
    have he := h e (List.mem_cons_self ..)
    by_cases hm : e ∈ DH
    · exact ⟨DH, hok, fun x hx => by rcases List.mem_cons.1 hx with rfl | hx; exact hm; exact hall x hx⟩
    · refine ⟨e :: DH, ⟨?_, fun x hx => by rcases List.mem_cons.1 hx with rfl | hx; exact he; exact hok.ok x hx⟩, fun x hx => by rcases List.mem_cons.1 hx with rfl | hx; exact List.mem_cons_self ..; exact List.mem_cons_of_mem _ (hall x hx)⟩
      cases hb : e.b with
      | none => unfold keys; rw [List.filterMap_cons, hb]; exact hok.nodup
      | some b =>
        unfold keys
        rw [List.filterMap_cons, hb]
        refine List.nodup_cons.2 ⟨fun hk => hm ?_, hok.nodup⟩
        obtain ⟨x, hx, hxb⟩ := mem_keys.1 hk
        have h1 := hok.ok x hx
        have h2 := he
        simp only [Ent.ok, hxb] at h1
        simp only [Ent.ok, hb] at h2
        rw [h1] at h2
        have e1 : x.o = e.o := Option.some.inj h2
        have e2 : x = e := by cases x; cases e; simp only at hb hxb e1; rw [hb, hxb, e1]
        exact e2 ▸ hx
end Go.Proofs.YtkcfgglmlogjbaaGreat
end
