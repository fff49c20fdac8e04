/-
 Chapter 49 (proxy), part HpI: contracts of functions that the laws call, each for the heap it names.
-/
import Derived.Test.YtelmlkdibcdebaaGreatY07
import Derived.Test.YtelmlkdibcdebaaGreatRows
set_option linter.unusedVariables false
set_option maxRecDepth 20000
set_option maxHeartbeats 16000000
namespace Go.Proofs.YtelmlkdibcdebaaGreat
theorem holds_one (k : Nat) (W : List Int) (oa : Option Addr) (c : Nat) (ent : Ent) (ha : Rd oa ent W) (limit : Int) (brk : Nat) (op idle : Int) (keep : Nat) (p : Plan) (L : List A9) (oa2 : Option Addr) (c2 : Nat) (ha2 : Arg oa2 ent 6 encA9 L) (hW : W.length ≤ 9223372036854775807) (hT : L.length ≤ 9223372036854775807) (hf : fewB W.length L 40) (hG : ∀ a ∈ L, a.now ≤ 18446744073709551615) (h : VOkB (k : Int) W limit brk) (hp : OkP p) (hq : POk op idle keep) (hsd : p.seed < 4294967296) (hkp : keep ≤ 18446744073709551615) : Spec Tryz.prog 4 [.agg (xsetL (k : Int) oa W.length c limit brk op idle keep p).toArray, .slice oa2 L.length c2] [ent] (fun r H' => r = .bool true ∧ H' = [ent]) := by
 have hL40 : L.length ≤ 40 := hf.2.1
 refine Spec.of (E := [(0, .agg (xsetL (k : Int) oa W.length c limit brk op idle keep p).toArray), (1, .slice oa2 L.length c2)]) Tryz.func4 rfl (by kernel_rfl) Tryz.ntmps4 rfl rfl (fun w => ?_)
 refine WCr (WLd Z (D_box (cs := [_, _, _, _, _, _, _, _, _, _, _, _, _, _]) Z Z Z) ?_)
 rintro _ _ ⟨b1, rfl, rfl⟩
 refine WLa Z (WL_nil (WQ_code (WC_seq (WCr (WLv Z (R_loadA (vs := [_, _, _, _, _, _, _, _, _, _, _, _, _, _]) Z ag30 Z mmD Z atZ) ?_)))))
 refine WLa Z (WLq Z (few_ok (k : Int) oa W.length c limit brk op idle keep p hW L oa2 c2 _ ha2 hT 40 (by omega)) Z pqD ?_)
 rw [decide_eq_true hf]
 refine WLa Z (WL_nil (WQ_code (WC_F Z (WC_skip (WQ_code (WCr (WLv Z (R_loadA (vs := [_, _, _, _, _, _, _, _, _, _, _, _, _, _]) Z ag30 Z mmD Z atZ) ?_)))))))
 refine WLc Z (xm_new k W oa c ent ha limit brk op idle keep p h hp hq hsd hkp) Z pqD ?_
 rintro _ _ ⟨_, ⟨m0, rfl, rfl, g0⟩, rfl⟩
 refine WLa Z (WLa Z (WLa Z (WLa Z (WLa Z (WL_nil (WQ_code (WC_seq (WCr (WLa Z (WLa Z (WL_set (s := 31) (v := .bool false) Z (by rfl) ?_)))))))))))
 refine WLa Z (WLa Z (WLv Z (R_ptrEqNil Z Tryz.underlying33 Z) ?_))
 refine WLa Z (WL_nil (WQ_code (WC_F Z (WC_skip (WQ_code (WCr (WLa Z (WL_nil (WQ_code (WCr (WLd Z (D_make (n := 101) Z si23 Z Z (by decide) (by decide)) ?_)))))))))))
 rintro _ _ ⟨b2, rfl, rfl⟩
 rw [tlL_zero]
 refine WLa Z (WL_nil (WQ_code (WC_seq (WCr (WLa Z (WL_nil (WQ_code (WC_block (WC_loopF (G := HcW) [4, 7, 9, 10, 11, 12, 13, 46, 47, 48, 49, 50, 51, 52, 53, 54, 55, 56, 57, 58, 59, 60, 61, 62, 63, 64, 65, 66, 67, 68, 69, 70, 71, 72, 73, 74, 75, 76, 77, 78, 79, 80, 81, 82, 83, 84, 85, 86, 87, 88, 89, 90, 91, 92, 93, 94, 95, 96, 97, 98, 99, 100, 101, 102, 103, 104, 105, 106, 107, 108, 109, 110, 111, 112, 113, 114, 115, 116, 117, 118, 119, 120, 121, 122, 123, 124, 125, 126, 127, 128, 129, 130, 131, 132, 133, 134, 135] (fun y => y.i ≤ L.length ∧ PXIs (141 * y.i) y.m y.x ∧ y.m.p = m0.p ∧ PXO y.i (102 * y.i) 0 y.x ∧ y.x.E = [] ∧ RX y.T (y.now + 1000) (-1) y.x ∧ y.x.now ≤ y.now ∧ y.now ≤ 1000 * y.i) (fun y => [(9, .int .i64 (y.i : Int)), (7, .int .u64 (y.now : Int))]) (fun y => pxK y.m y.x ++ [⟨some b2, cl (ivs (tlL y.T) ++ []) 3⟩]) (fun y => L.length - y.i) (⟨0, m0, px0 k W limit brk op idle keep p, fun _ => 0, 0⟩) (⟨Nat.zero_le _, g0, Z, PXO.new hp hq, Z, RX.new hp hq g0.vl, Nat.le_refl _, Nat.le_refl _⟩) leZ pqD ?_)))))))))
 rintro y ⟨hyi, gP, hyp, gO, hE0, hR, hyn, hyn2⟩
 rw [← hyp]
 refine WC_seq (WCr (WLa Z (WLa Z (WLv Z (R_len Z Tryz.underlying41 Z) ?_))))
 refine WLa Z (WL_nil (WQ_code ?_))
 refine WC_dec Z (fun c1 => ?_) (fun c1 => ?_)
 ·refine WC_skip (WQ_code (WC_seq (WC_block (WCr ?_))))
  obtain ⟨a, hak⟩ := getE (T := L) (i := y.i) (by omega)
  have hba := hG a (List.mem_of_getElem? hak)
  obtain ⟨lb, lk, lcs, le, lfr, rfl, rfl, hat⟩ := ha2.some (by omega)
  obtain ⟨un, hun, hun2⟩ := u64_nat a.n
  obtain ⟨nn, hnn⟩ : ∃ q, q = un % 101 := ⟨_, rfl⟩
  have hnn1 : nn ≤ 100 := by omega
  have hP100 : y.x.P.length ≤ 100 := by have := pxis_len gP; omega
  have hT := hR.toldE hE0
  refine WLa Z (WLa Z (WLv Z (R_indexAddrN Z Tryz.underlying41 Tryz.sizeOf43 Z Z (by omega)) ?_))
  refine WLv Z (R_loadAG (vs := encA9 a) Z ag43 Z mmD Z (hat y.i a hak)) ?_
  refine WLd Z (D_alloc Z zv43) ?_
  rintro _ _ ⟨b3, rfl, rfl⟩
  refine WLs (vs := [_, _, _, _, _, _]) Z Tryz.sizeOf43 Z Z plD (nb Z) ?_
  refine WL_nil (WQ_code (WCr (WLa Z (WLf Z fa43_2 (WLl Z sc25 mmD Z (WLv Z (R_remR (r := ((a.now % 1001 : Nat) : Int)) Z Z Z (by decide) (rem_nat a.now 1001)) ?_))))))
  refine WLv Z (R_addR (r := ((y.now + a.now % 1001 : Nat) : Int)) Z Z Z (by rw [w64 ⟨by omega, by omega⟩] <;> omega)) ?_
  refine WLa Z (WL_nil (WQ_code (WCr (WLf Z fa43_1 (WLl Z sc3 mmD Z (WLv Z (R_conv (r := ((un : Nat) : Int)) Z Tryz.underlying3 Tryz.underlying44 Z (hun)) ?_))))))
  refine WLv Z (R_remR (r := ((nn : Nat) : Int)) Z Z Z (by decide) (by rw [hnn]; exact rem_nat un 101)) ?_
  refine WLv Z (R_conv (r := ((nn : Nat) : Int)) Z Tryz.underlying44 Tryz.underlying3 Z (by rw [wrap64_in (by omega) (by omega)])) ?_
  refine WLa Z (WL_nil (WQ_code (WC_cutF (G := HdW) [4, 12, 13, 66, 67, 68, 69, 70, 71, 72, 73, 74, 75, 76, 77, 78, 79, 80, 81, 82, 83, 84, 85, 86, 87, 88, 89, 90, 91, 92, 93, 94, 95, 96, 97, 98, 99, 100, 101, 102, 103, 104, 105, 106, 107, 108, 109, 110, 111, 112, 113, 114, 115, 116, 117, 118, 119, 120, 121, 122, 123, 124, 125] (fun v => PXIs (141 * y.i + 141) v.m v.x ∧ v.m.p = y.m.p ∧ PXO (y.i + 1) (102 * y.i + 102) 200 v.x ∧ RX v.T ((y.now + a.now % 1001) + 1000) (-1) v.x ∧ v.x.now ≤ (y.now + a.now % 1001)) (fun v => []) (fun v => pxK v.m v.x ++ [⟨some b2, cl (ivs (tlL v.T) ++ []) 3⟩]) ((pxK y.m y.x ++ [⟨some b2, cl (ivs (tlL y.T) ++ []) 3⟩])) pqD ?_ ?_)))
  ·refine WCr (WLf Z fa43_0 (WLl Z sc3 mmD Z (WL_nil (WQ_code (WC_block (WCr (WLa Z (WLa Z (WL_nil (WQ_code ?_))))))))))
   refine WC_dec Z (fun c2 => ?_) (fun c2 => ?_)
   ·refine WCr (WLa Z (WLa Z (WLa Z (WLa Z (WLv Z (R_addR (r := (((y.now + a.now % 1001) + 1 : Nat) : Int)) Z Z Z (by rw [w64 ⟨by omega, by omega⟩] <;> omega)) ?_)))))
    refine WLf Z fa43_3 (WLl Z sc25 mmD Z (WLv Z (R_remR (r := ((a.dl % 1000 : Nat) : Int)) Z Z Z (by decide) (rem_nat a.dl 1000)) ?_))
    refine WLv Z (R_addR (r := (((y.now + a.now % 1001) + 1 + a.dl % 1000 : Nat) : Int)) Z Z Z (by rw [w64 ⟨by omega, by omega⟩] <;> omega)) ?_
    refine WLc Z (xm_begin gP gO (by omega) (by omega) (by omega) (nn : Int) (y.now + a.now % 1001) ((y.now + a.now % 1001) + 1 + a.dl % 1000) (by omega) ⟨#[]⟩) Z pqD ?_
    rintro _ _ ⟨_, ⟨m1, x1, rfl, rfl, h1, hp1, o1, hx1⟩, rfl⟩
    rw [← hp1]
    refine WLa Z (WL_nil (WQ_code (WCr ?_)))
    rcases hx1 with ⟨hbe, rfl⟩ | ⟨hbe, p9, rfl⟩
    ·have hq9 : ¬ y.T (nn : Int) = 0 := by rw [hT]; exact fun e => hbe ((beg_told (key := ⟨#[]⟩) (n := (nn : Int)) ⟨by omega, by omega⟩ (by decide) (by omega) (by omega) (by omega)).2 e)
     refine WLa Z (WLa Z (WL_set (s := 85) (v := .bool false) Z (by exact congrArg Value.bool (decide_eq_false (hbe))) ?_))
     refine WLa Z (WLa Z (WLv Z (R_indexAddrN Z Tryz.underlying23 Tryz.sizeOf3 Z Z (by omega)) ?_))
     refine WLv Z (R_load (v := .int .i64 (y.T (nn : Int))) Z sc3 Z mmD (fm_get0 encI1 (tlL_at y.T (n := nn) (by omega)) (j := 0) (by omega))) ?_
     refine WLa Z (WL_set (s := 90) (v := .bool false) Z (by exact congrArg Value.bool (decide_eq_false (hq9))) ?_)
     refine WLv Z (R_boolNe Z Tryz.underlying4 Z Z) ?_
     refine WL_set (s := 91) (v := .bool false) Z (by rfl) ?_
     refine WL_nil (WQ_code (WC_F Z (WCr (WLa Z (WLa Z (WL_set (s := 93) (v := .bool false) Z (by exact congrArg Value.bool (decide_eq_false (hbe))) ?_))))))
     refine WL_nil (WQ_code (WC_F Z (WC_skip ?_)))
     refine WQ_cutF (⟨m1, y.x, y.T⟩) (⟨h1.le (by first | omega | (dsimp only; omega)), by first | rfl | exact hp1 | exact hp1.trans hyp, o1.le (by first | omega | (dsimp only; omega)) (by first | omega | (dsimp only; omega)) (by first | omega | (dsimp only; omega)), hR.mono (by omega), by first | omega | (dsimp only; omega)⟩) leZ (psZ) pqD
    ·have hq9 : y.T (nn : Int) = 0 := by rw [hT]; exact (beg_told (key := ⟨#[]⟩) (n := (nn : Int)) ⟨by omega, by omega⟩ (by decide) (by omega) (by omega) (by omega)).1 hbe
     refine WLa Z (WLa Z (WL_set (s := 85) (v := .bool true) Z (by exact congrArg Value.bool (decide_eq_true (hbe))) ?_))
     refine WLa Z (WLa Z (WLv Z (R_indexAddrN Z Tryz.underlying23 Tryz.sizeOf3 Z Z (by omega)) ?_))
     refine WLv Z (R_load (v := .int .i64 (y.T (nn : Int))) Z sc3 Z mmD (fm_get0 encI1 (tlL_at y.T (n := nn) (by omega)) (j := 0) (by omega))) ?_
     refine WLa Z (WL_set (s := 90) (v := .bool true) Z (by exact congrArg Value.bool (decide_eq_true (hq9))) ?_)
     refine WLv Z (R_boolNe Z Tryz.underlying4 Z Z) ?_
     refine WL_set (s := 91) (v := .bool false) Z (by rfl) ?_
     refine WL_nil (WQ_code (WC_F Z (WCr (WLa Z (WLa Z (WL_set (s := 93) (v := .bool true) Z (by exact congrArg Value.bool (decide_eq_true (hbe))) ?_))))))
     refine WL_nil (WQ_code (WC_T Z (WC_region (WLa Z (WLa Z (WLv Z (R_indexAddrN Z Tryz.underlying23 Tryz.sizeOf3 Z Z (by omega)) ?_))))))
     refine WLs (vs := [_]) Z Tryz.sizeOf3 Z Z plD (by exact fm_room0 encI1 (show nn < (tlL y.T).length by rw [tlL_len]; omega) (j := 0) (by omega)) ?_
     rw [tlL_put y.T (n := nn) (by omega) 1]
     refine WL_nil ?_
     refine WQ_cutF (⟨m1, y.x.begin (nn : Int) (y.now + a.now % 1001) ((y.now + a.now % 1001) + 1 + a.dl % 1000) ⟨#[]⟩ p9, updT y.T (nn : Int) 1⟩) (⟨h1.le (by first | omega | (dsimp only; omega)), by first | rfl | exact hp1 | exact hp1.trans hyp, o1.le (by first | omega | (dsimp only; omega)) (by first | omega | (dsimp only; omega)) (by first | omega | (dsimp only; omega)), hR.begun hE0 gO.tr p9 hbe (D2 := (y.now + a.now % 1001) + 1000) (by omega) (by omega), Nat.le_of_eq (begin_now _ _ _ _ _ _)⟩) leZ (psZ) pqD
   ·refine WCr (WLa Z (WLa Z (WL_nil (WQ_code ?_))))
    refine WC_dec Z (fun c3 => ?_) (fun c3 => ?_)
    ·refine WC_region (WLa Z (WLa Z (WLf Z fa43_5 (WLl Z sc4 mmD Z (WLa Z (WLc Z (xm_dialed gP gO (by omega) (by omega) (nn : Int) a.good (y.now + a.now % 1001) (by omega)) Z pqD ?_))))))
     rintro _ _ ⟨_, ⟨m1, rfl, rfl, h1, hp1, o1⟩, rfl⟩
     rw [← hp1]
     refine WL_nil ?_
     refine WQ_cutF (⟨m1, y.x.dialX (nn : Int) a.good (y.now + a.now % 1001), y.T⟩) (⟨h1.le (by first | omega | (dsimp only; omega)), by first | rfl | exact hp1 | exact hp1.trans hyp, o1.le (by first | omega | (dsimp only; omega)) (by first | omega | (dsimp only; omega)) (by first | omega | (dsimp only; omega)), (RX.dialX gO hR (nn : Int) a.good (y.now + a.now % 1001)).mono (by omega), dialX_now (by omega)⟩) leZ (psZ) pqD
    ·refine WCr (WLa Z (WLa Z (WL_nil (WQ_code ?_))))
     refine WC_dec Z (fun c4 => ?_) (fun c4 => ?_)
     ·refine WCr (WLa Z (WLa Z (WLf Z fa43_5 (WLl Z sc4 mmD Z (WLa Z (WLc Z (xm_end gP gO (by omega) (by omega) (nn : Int) a.good (y.now + a.now % 1001) (by omega)) Z pqD ?_))))))
      rintro _ _ ⟨_, ⟨m1, rfl, rfl, h1, hp1, o1⟩, rfl⟩
      rw [← hp1]
      refine WLa Z (WL_nil (WQ_code (WCr ?_)))
      rcases Classical.em (y.x.inX (nn : Int) 4 (y.now + a.now % 1001) = 0) with he4 | he4
      ·have hq9 : y.T (nn : Int) = 2 := by rw [hT]; exact (end_told gO.g.nd ⟨by omega, by omega⟩ (by omega) (by omega)).1 he4
       refine WLa Z (WLa Z (WL_set (s := 114) (v := .bool true) Z (by exact congrArg Value.bool (decide_eq_true (he4))) ?_))
       refine WLa Z (WLa Z (WLv Z (R_indexAddrN Z Tryz.underlying23 Tryz.sizeOf3 Z Z (by omega)) ?_))
       refine WLv Z (R_load (v := .int .i64 (y.T (nn : Int))) Z sc3 Z mmD (fm_get0 encI1 (tlL_at y.T (n := nn) (by omega)) (j := 0) (by omega))) ?_
       refine WLa Z (WL_set (s := 119) (v := .bool true) Z (by exact congrArg Value.bool (decide_eq_true (hq9))) ?_)
       refine WLv Z (R_boolNe Z Tryz.underlying4 Z Z) ?_
       refine WL_set (s := 120) (v := .bool false) Z (by rfl) ?_
       refine WL_nil (WQ_code (WC_F Z (WCr (WLa Z (WLa Z (WL_set (s := 122) (v := .bool true) Z (by exact congrArg Value.bool (decide_eq_true (he4))) ?_))))))
       refine WL_nil (WQ_code (WC_T Z (WC_region (WLa Z (WLa Z (WLv Z (R_indexAddrN Z Tryz.underlying23 Tryz.sizeOf3 Z Z (by omega)) ?_))))))
       refine WLs (vs := [_]) Z Tryz.sizeOf3 Z Z plD (by exact fm_room0 encI1 (show nn < (tlL y.T).length by rw [tlL_len]; omega) (j := 0) (by omega)) ?_
       rw [tlL_put y.T (n := nn) (by omega) 0]
       refine WL_nil ?_
       refine WQ_cutF (⟨m1, y.x.endX (nn : Int) a.good (y.now + a.now % 1001), updT y.T (nn : Int) 0⟩) (⟨h1.le (by first | omega | (dsimp only; omega)), by first | rfl | exact hp1 | exact hp1.trans hyp, o1.le (by first | omega | (dsimp only; omega)) (by first | omega | (dsimp only; omega)) (by first | omega | (dsimp only; omega)), (RX.endX gO hR hE0 (nn : Int) a.good (y.now + a.now % 1001) he4).mono (by omega), endX_now (by omega)⟩) leZ (psZ) pqD
      ·have hq9 : ¬ y.T (nn : Int) = 2 := by rw [hT]; exact fun e => he4 ((end_told gO.g.nd ⟨by omega, by omega⟩ (by omega) (by omega)).2 e)
       refine WLa Z (WLa Z (WL_set (s := 114) (v := .bool false) Z (by exact congrArg Value.bool (decide_eq_false (he4))) ?_))
       refine WLa Z (WLa Z (WLv Z (R_indexAddrN Z Tryz.underlying23 Tryz.sizeOf3 Z Z (by omega)) ?_))
       refine WLv Z (R_load (v := .int .i64 (y.T (nn : Int))) Z sc3 Z mmD (fm_get0 encI1 (tlL_at y.T (n := nn) (by omega)) (j := 0) (by omega))) ?_
       refine WLa Z (WL_set (s := 119) (v := .bool false) Z (by exact congrArg Value.bool (decide_eq_false (hq9))) ?_)
       refine WLv Z (R_boolNe Z Tryz.underlying4 Z Z) ?_
       refine WL_set (s := 120) (v := .bool false) Z (by rfl) ?_
       refine WL_nil (WQ_code (WC_F Z (WCr (WLa Z (WLa Z (WL_set (s := 122) (v := .bool false) Z (by exact congrArg Value.bool (decide_eq_false (he4))) ?_))))))
       refine WL_nil (WQ_code (WC_F Z (WC_skip ?_)))
       refine WQ_cutF (⟨m1, y.x.endX (nn : Int) a.good (y.now + a.now % 1001), y.T⟩) (⟨h1.le (by first | omega | (dsimp only; omega)), by first | rfl | exact hp1 | exact hp1.trans hyp, o1.le (by first | omega | (dsimp only; omega)) (by first | omega | (dsimp only; omega)) (by first | omega | (dsimp only; omega)), by show RX y.T ((y.now + a.now % 1001) + 1000) (-1) (y.x.endX (nn : Int) a.good (y.now + a.now % 1001)); rw [endX_no he4]; exact hR.mono (by omega), endX_now (by omega)⟩) leZ (psZ) pqD
     ·refine WCr (WLa Z (WLa Z (WLc Z (xm_adv gP gO (by omega) (by omega) (by omega) (by omega) hP100 (y.now + a.now % 1001) (by omega)) Z pqD ?_)))
      rintro _ _ ⟨_, ⟨m1, rfl, rfl, h1, hp1, o1⟩, rfl⟩
      rw [← hp1]
      refine WLa Z (WL_set (s := 71) (v := .bool false) Z (by exact congrArg Value.bool (decide_eq_false (fun e => e (may_is (by omega) (by omega))))) ?_)
      refine WL_nil (WQ_code (WC_F Z (WC_skip ?_)))
      refine WQ_cutF (⟨m1, y.x.advX (y.now + a.now % 1001), y.T⟩) (⟨h1.le (by first | omega | (dsimp only; omega)), by first | rfl | exact hp1 | exact hp1.trans hyp, o1.le (by first | omega | (dsimp only; omega)) (by first | omega | (dsimp only; omega)) (by first | omega | (dsimp only; omega)), by show RX y.T ((y.now + a.now % 1001) + 1000) (-1) (y.x.advX (y.now + a.now % 1001)); rw [advX_is (by omega) (by omega)]; exact (hR.adv gO.tr (by omega) (by omega)).mono (by omega), by show (y.x.advX (y.now + a.now % 1001)).now ≤ (y.now + a.now % 1001); rw [advX_is (by omega) (by omega), adv_now]; exact Nat.le_refl _⟩) leZ (psZ) pqD
  ·rintro v ⟨gv, gvp, ov, Rv, nv⟩
   refine WCr ?_
   rw [← gvp]
   refine WLa Z (WLa Z (WLc Z (drained_ok gv Rv (by have := ov.e; omega) b2) Z pqD ?_))
   rintro _ _ ⟨_, ⟨m2, T2, rfl, rfl, h2, hp2, hR2⟩, rfl⟩
   rw [← hp2]
   refine WLa Z (WLa Z (WLa Z (WLa Z (WLq Z (apart_ok h2 hR2 (drp_E _) b2) Z pqD ?_))))
   refine WLa Z (WLa Z (WL_nil (WQ_code (WC_F Z (WC_skip (WQ_code (WC_region (WLa Z (WLv Z (R_add Z Z Z (by omega)) ?_)))))))))
   refine WLa Z (WL_nil ?_)
   refine WQ_nextF (⟨y.i + 1, m2, v.x.drp v.x.E.length, T2, (y.now + a.now % 1001)⟩) (⟨by first | omega | (dsimp only; omega), h2.le (by first | omega | (dsimp only; omega)), by first | rfl | exact hp2.trans gvp | exact hp2.trans (gvp.trans hyp), ov.drp.le (by first | omega | (dsimp only; omega)) (by first | omega | (dsimp only; omega)) (Nat.le_refl _), drp_E _, hR2, nv, by first | omega | (dsimp only; omega)⟩) (by first | omega | (dsimp only; omega)) leZ (psZ) Z pqD
 ·refine WC_exit (WQ_code (WC_seq (WCr (WLa Z (WL_nil (WQ_code (WC_block (WC_loopF (G := HtW) [4, 7, 14, 15, 16, 17, 18, 19, 136, 137, 138, 139, 140, 141, 142, 143, 144, 145, 146, 147, 148, 149, 150, 151, 152, 153, 154, 155, 156, 157, 158, 159, 160, 161, 162, 163, 164, 165, 166, 167, 168, 169, 170, 171, 172, 173, 174, 175, 176, 177, 178, 179, 180, 181, 182, 183, 184, 185, 186, 187, 188, 189, 190, 191, 192, 193, 194, 195] (fun z => z.t ≤ 1 ∧ PXIs (5640 + 1000 * z.t) z.m z.x ∧ z.m.p = y.m.p ∧ PXO (40 + 300 * z.t) (5000 + 1000 * z.t) 0 z.x ∧ z.x.E = [] ∧ RX z.T (y.now + 1000) (-1) z.x ∧ z.x.now ≤ z.now ∧ y.now ≤ z.now ∧ z.now ≤ 41000 + 1000 * z.t ∧ (z.t = 1 → ∀ q ∈ z.x.S, q.st = 3 ∨ q.st = 4)) (fun z => [(14, .int .i64 (z.t : Int)), (7, .int .u64 (z.now : Int))]) (fun z => pxK z.m z.x ++ [⟨some b2, cl (ivs (tlL z.T) ++ []) 3⟩]) (fun z => 2 - z.t) (⟨0, y.m, y.x, y.T, y.now⟩) (⟨Nat.zero_le _, gP.le (by first | omega | (dsimp only; omega)), Z, gO.le (by first | omega | (dsimp only; omega)) (by first | omega | (dsimp only; omega)) (Nat.le_refl _), hE0, hR, hyn, Nat.le_refl _, by first | omega | (dsimp only; omega), fun q => absurd q (by first | omega | (dsimp only; omega))⟩) leZ pqD ?_))))))))
  rintro z ⟨hzt, gz, hzp, oz, hEz, Rz, nz, hz1, hz2, fz⟩
  rw [← hzp]
  refine WC_seq (WCr (WLa Z (WLa Z (WL_nil (WQ_code (WC_dT Z (by omega) ?_))))))
  refine WC_skip (WQ_code (WC_seq (WC_block (WCr (WLa Z (WL_nil (WQ_code (WC_seq (WCr (WLa Z (WL_nil (WQ_code (WC_block (WC_loopF (G := HnW) [4, 15, 16, 17, 18, 19, 140, 141, 142, 143, 144, 145, 146, 147, 148, 149, 150, 151, 152, 153, 154, 155, 156, 157, 158, 159, 160, 161, 162, 163, 164, 165, 166, 167, 168, 169, 170, 171, 172, 173, 174, 175, 176, 177, 178, 179, 180] (fun u => u.n ≤ 101 ∧ PXIs (5640 + 1000 * z.t + 6 * u.n) u.m u.x ∧ u.m.p = z.m.p ∧ PXO (40 + 300 * z.t + 2 * u.n) (5000 + 1000 * z.t + 2 * u.n) 0 u.x ∧ u.x.E = [] ∧ RX u.T (y.now + 1000) (-1) u.x ∧ u.x.now ≤ z.now ∧ (z.t = 1 → Fin (u.n : Int) u.x ∧ u.th = false)) (fun u => [(16, .int .i64 (u.n : Int)), (15, .bool u.th)]) (fun u => pxK u.m u.x ++ [⟨some b2, cl (ivs (tlL u.T) ++ []) 3⟩]) (fun u => 101 - u.n) (⟨0, z.m, z.x, z.T, false⟩) (⟨Nat.zero_le _, gz.le (by first | omega | (dsimp only; omega)), Z, oz.le (by first | omega | (dsimp only; omega)) (by first | omega | (dsimp only; omega)) (Nat.le_refl _), hEz, Rz, nz, fun q => ⟨Fin.zero Rz (fz q), Z⟩⟩) leZ pqD ?_))))))))))))))
  rintro u ⟨hun9, hu, hup, ou, hEu, Ru, nu, fu⟩
  rw [← hup]
  refine WC_seq (WCr (WLa Z (WLa Z (WL_nil (WQ_code ?_)))))
  refine WC_dec Z (fun c5 => ?_) (fun c5 => ?_)
  ·refine WC_skip (WQ_code (WC_seq (WC_block (WCr (WLa Z (WLa Z (WLa Z (WLc Z (xm_dialed hu ou (by omega) (by omega) (u.n : Int) true z.now (by omega)) Z pqD ?_))))))))
   rintro _ _ ⟨_, ⟨m1, rfl, rfl, h1, hp1, o1⟩, rfl⟩
   rw [← hp1]
   have R1 := RX.dialX ou Ru (u.n : Int) true z.now
   have hn1 := dialX_now (n := (u.n : Int)) (good := true) nu
   have F1 : z.t = 1 → Fin2 (u.n : Int) (u.x.dialX (u.n : Int) true z.now) := fun q => (fu q).1.dial ou ⟨by omega, by omega⟩ nu (by omega)
   refine WL_nil (WQ_code (WC_seq (WCr (WLa Z (WLa Z (WLc Z (drained_ok h1 R1 (by have := o1.e; omega) b2) Z pqD ?_))))))
   rintro _ _ ⟨_, ⟨m2, T2, rfl, rfl, h2, hp2, hR2⟩, rfl⟩
   rw [← hp2]
   have hT2 := hR2.toldE (drp_E _)
   have hn2 : ((u.x.dialX (u.n : Int) true z.now).drp (u.x.dialX (u.n : Int) true z.now).E.length).now ≤ z.now := hn1
   have hin := end_told (n := (u.n : Int)) hR2.g.nd ⟨by omega, by omega⟩ hn2 (by omega)
   rw [← hT2] at hin
   refine WLa Z (WL_nil (WQ_code (WC_F Z (WC_skip (WQ_code (WC_seq (WCr (WLa Z (WLa Z (WLv Z (R_indexAddrN Z Tryz.underlying23 Tryz.sizeOf3 Z Z (by omega)) ?_))))))))))
   refine WLv Z (R_load (v := .int .i64 (T2 (u.n : Int))) Z sc3 Z mmD (fm_get0 encI1 (tlL_at T2 (n := u.n) (by omega)) (j := 0) (by omega))) ?_
   refine WLa Z (WL_nil (WQ_code ?_))
   refine WC_dec Z (fun c6 => ?_) (fun c6 => ?_)
   ·have ht2 : T2 (u.n : Int) = 2 := c6
    refine WC_seq (WCr (WLa Z (WLa Z (WLa Z (WLc Z (xm_end h2 o1.drp (by omega) (by omega) (u.n : Int) true z.now (by omega)) Z pqD ?_)))))
    rintro _ _ ⟨_, ⟨m3, rfl, rfl, h3, hp3, o3⟩, rfl⟩
    rw [← hp3]
    have R3 := RX.endX o1.drp hR2 (drp_E _) (u.n : Int) true z.now (hin.2 ht2)
    have hn3 := endX_now (n := (u.n : Int)) (good := true) hn2
    refine WLa Z (WL_set (s := 161) (v := .bool false) Z (by exact congrArg Value.bool (decide_eq_false (fun e => e (hin.2 ht2)))) ?_)
    refine WL_nil (WQ_code (WC_F Z (WC_skip (WQ_code (WCr (WLa Z (WLa Z (WLv Z (R_indexAddrN Z Tryz.underlying23 Tryz.sizeOf3 Z Z (by omega)) ?_))))))))
    refine WLs (vs := [_]) Z Tryz.sizeOf3 Z Z plD (by exact fm_room0 encI1 (show u.n < (tlL T2).length by rw [tlL_len]; omega) (j := 0) (by omega)) ?_
    rw [tlL_put T2 (n := u.n) (by omega) 0]
    refine WL_nil (WQ_code (WCr (WLa Z (WLa Z (WLc Z (drained_ok h3 R3 (by have := o3.e; omega) b2) Z pqD ?_)))))
    rintro _ _ ⟨_, ⟨m4, T4, rfl, rfl, h4, hp4, hR4⟩, rfl⟩
    rw [← hp4]
    refine WLa Z (WL_nil (WQ_code (WC_F Z (WC_skip (WQ_code (WCr (WLa Z (WLa Z (WLc Z (xm_state h4 (u.n : Int)) Z pqD ?_)))))))))
    rintro _ _ ⟨_, ⟨rfl, rfl⟩, rfl⟩
    refine WLa Z (WLa Z (WLa Z (WLa Z (WLa Z (WLa Z (WLa Z (WL_nil (WQ_code (WC_region ?_)))))))))
    rcases Bool.eq_false_or_eq_true u.th with hth | hth
    ·refine WLa Z (WL_set (s := 176) (v := .bool true) Z (by rw [hth]) ?_)
     refine WLa Z (WLa Z (WLa Z (WLa Z (WLa Z (WL_nil (WQ_code (WC_region (WLa Z (WLv Z (R_add Z Z Z (by omega)) ?_)))))))))
     refine WLa Z (WL_nil ?_)
     refine WQ_nextF (⟨u.n + 1, m4, ((((u.x.dialX (u.n : Int) true z.now).drp (u.x.dialX (u.n : Int) true z.now).E.length).endX (u.n : Int) true z.now).drp (((u.x.dialX (u.n : Int) true z.now).drp (u.x.dialX (u.n : Int) true z.now).E.length).endX (u.n : Int) true z.now).E.length), T4, true⟩) (⟨by first | omega | (dsimp only; omega), h4.le (by first | omega | (dsimp only; omega)), by first | rfl | exact hp4.trans (hp3.trans (hp2.trans hp1)) | exact hp4.trans (hp3.trans (hp2.trans (hp1.trans hup))), o3.drp.le (by first | omega | (dsimp only; omega)) (by first | omega | (dsimp only; omega)) (Nat.le_refl _), drp_E _, hR4, hn3, fun q => by have q2 := (fu q).2; rw [q2] at hth; cases hth⟩) (by first | omega | (dsimp only; omega)) leZ (psZ) Z pqD
    ·refine WLa Z (WL_set (s := 176) (v := .bool false) Z (by rw [hth]) ?_)
     refine WLa Z (WLa Z (WLa Z (WLa Z (WLa Z (WL_nil (WQ_code (WC_region (WLa Z (WLv Z (R_add Z Z Z (by omega)) ?_)))))))))
     refine WLa Z (WL_nil ?_)
     refine WQ_nextF (⟨u.n + 1, m4, ((((u.x.dialX (u.n : Int) true z.now).drp (u.x.dialX (u.n : Int) true z.now).E.length).endX (u.n : Int) true z.now).drp (((u.x.dialX (u.n : Int) true z.now).drp (u.x.dialX (u.n : Int) true z.now).E.length).endX (u.n : Int) true z.now).E.length), T4, decide ((((((u.x.dialX (u.n : Int) true z.now).drp (u.x.dialX (u.n : Int) true z.now).E.length).endX (u.n : Int) true z.now).drp (((u.x.dialX (u.n : Int) true z.now).drp (u.x.dialX (u.n : Int) true z.now).E.length).endX (u.n : Int) true z.now).E.length).stX (u.n : Int)).1 ≠ 0)⟩) (⟨by first | omega | (dsimp only; omega), h4.le (by first | omega | (dsimp only; omega)), by first | rfl | exact hp4.trans (hp3.trans (hp2.trans hp1)) | exact hp4.trans (hp3.trans (hp2.trans (hp1.trans hup))), o3.drp.le (by first | omega | (dsimp only; omega)) (by first | omega | (dsimp only; omega)) (Nat.le_refl _), drp_E _, hR4, hn3, fun q => ⟨Fin2.end_ o1.drp (F1 q) (hin.2 ht2), by dsimp only; exact decide_eq_false (fun e => e (Fin.st (Fin2.end_ o1.drp (F1 q) (hin.2 ht2))))⟩⟩) (by first | omega | (dsimp only; omega)) leZ (psZ) Z pqD
   ·have ht2 : ¬ T2 (u.n : Int) = 2 := c6
    refine WC_skip (WQ_code (WCr (WLa Z (WLa Z (WLc Z (xm_state h2 (u.n : Int)) Z pqD ?_)))))
    rintro _ _ ⟨_, ⟨rfl, rfl⟩, rfl⟩
    refine WLa Z (WLa Z (WLa Z (WLa Z (WLa Z (WLa Z (WLa Z (WL_nil (WQ_code (WC_region ?_)))))))))
    rcases Bool.eq_false_or_eq_true u.th with hth | hth
    ·refine WLa Z (WL_set (s := 176) (v := .bool true) Z (by rw [hth]) ?_)
     refine WLa Z (WLa Z (WLa Z (WLa Z (WLa Z (WL_nil (WQ_code (WC_region (WLa Z (WLv Z (R_add Z Z Z (by omega)) ?_)))))))))
     refine WLa Z (WL_nil ?_)
     refine WQ_nextF (⟨u.n + 1, m2, ((u.x.dialX (u.n : Int) true z.now).drp (u.x.dialX (u.n : Int) true z.now).E.length), T2, true⟩) (⟨by first | omega | (dsimp only; omega), h2.le (by first | omega | (dsimp only; omega)), by first | rfl | exact hp2.trans hp1 | exact hp2.trans (hp1.trans hup), o1.drp.le (by first | omega | (dsimp only; omega)) (by first | omega | (dsimp only; omega)) (Nat.le_refl _), drp_E _, hR2, hn2, fun q => by have q2 := (fu q).2; rw [q2] at hth; cases hth⟩) (by first | omega | (dsimp only; omega)) leZ (psZ) Z pqD
    ·refine WLa Z (WL_set (s := 176) (v := .bool false) Z (by rw [hth]) ?_)
     refine WLa Z (WLa Z (WLa Z (WLa Z (WLa Z (WL_nil (WQ_code (WC_region (WLa Z (WLv Z (R_add Z Z Z (by omega)) ?_)))))))))
     refine WLa Z (WL_nil ?_)
     refine WQ_nextF (⟨u.n + 1, m2, ((u.x.dialX (u.n : Int) true z.now).drp (u.x.dialX (u.n : Int) true z.now).E.length), T2, decide ((((u.x.dialX (u.n : Int) true z.now).drp (u.x.dialX (u.n : Int) true z.now).E.length).stX (u.n : Int)).1 ≠ 0)⟩) (⟨by first | omega | (dsimp only; omega), h2.le (by first | omega | (dsimp only; omega)), by first | rfl | exact hp2.trans hp1 | exact hp2.trans (hp1.trans hup), o1.drp.le (by first | omega | (dsimp only; omega)) (by first | omega | (dsimp only; omega)) (Nat.le_refl _), drp_E _, hR2, hn2, fun q => ⟨Fin2.no hR2.g.nd (F1 q) (by rw [← hT2]; exact ht2), by dsimp only; exact decide_eq_false (fun e => e (Fin.st (Fin2.no hR2.g.nd (F1 q) (by rw [← hT2]; exact ht2))))⟩⟩) (by first | omega | (dsimp only; omega)) leZ (psZ) Z pqD
  ·have hu101 : u.n = 101 := by omega
   refine WC_exit (WQ_code (WC_seq (WCr ?_)))
   rcases Bool.eq_false_or_eq_true u.th with hth | hth
   ·have ht0 : z.t = 0 := by rcases Nat.lt_or_ge z.t 1 with q | q; omega; have q2 := (fu (by omega)).2; rw [q2] at hth; cases hth
    refine WLa Z (WL_set (s := 181) (v := .bool true) Z (by rw [hth]) ?_)
    refine WLa Z (WL_nil (WQ_code (WC_F Z (WC_skip (WQ_code (WCr (WLa Z (WLv Z (R_addR (r := ((z.now + 1000 : Nat) : Int)) Z Z Z (by rw [w64 ⟨by omega, by omega⟩] <;> omega)) ?_))))))))
    refine WLa Z (WL_nil (WQ_code (WCr (WLa Z (WLa Z (WLc Z (xm_adv hu ou (by omega) (by omega) (by omega) (by omega) (by have := pxis_len hu; omega) (z.now + 1000) (by omega)) Z pqD ?_))))))
    rintro _ _ ⟨_, ⟨m1, rfl, rfl, h1, hp1, o1⟩, rfl⟩
    rw [← hp1]
    have R1 : RX u.T (y.now + 1000) (-1) (u.x.advX (z.now + 1000)) := by rw [advX_is (by omega) (by omega)]; exact Ru.adv ou.tr (by omega) (by omega)
    refine WLa Z (WL_set (s := 189) (v := .bool false) Z (by exact congrArg Value.bool (decide_eq_false (fun e => e (may_is (by omega) (by omega))))) ?_)
    refine WLa Z (WLa Z (WLa Z (WLc Z (drained_ok h1 R1 (by have := o1.e; omega) b2) Z pqD ?_)))
    rintro _ _ ⟨_, ⟨m2, T2, rfl, rfl, h2, hp2, hR2⟩, rfl⟩
    rw [← hp2]
    refine WLa Z (WLa Z (WL_nil (WQ_code (WC_F Z (WC_skip (WQ_code (WC_region (WLa Z (WLv Z (R_add Z Z Z (by omega)) ?_)))))))))
    refine WLa Z (WL_nil ?_)
    refine WQ_nextF (⟨z.t + 1, m2, (u.x.advX (z.now + 1000)).drp (u.x.advX (z.now + 1000)).E.length, T2, z.now + 1000⟩) (⟨by first | omega | (dsimp only; omega), h2.le (by first | omega | (dsimp only; omega)), by first | rfl | exact hp2.trans hp1 | exact hp2.trans (hp1.trans hup) | exact hp2.trans (hp1.trans (hup.trans hzp)), o1.drp.le (by first | omega | (dsimp only; omega)) (by first | omega | (dsimp only; omega)) (Nat.le_refl _), drp_E _, hR2, by rw [advX_is (by omega) (by omega)]; show (u.x.adv (z.now + 1000)).now ≤ z.now + 1000; rw [adv_now]; exact Nat.le_refl _, by first | omega | (dsimp only; omega), by first | omega | (dsimp only; omega), fun _ => by rw [advX_is (by omega) (by omega)]; exact Ru.late (fun si hs => (ou.b si hs).1) (by omega) (by omega) (by omega)⟩) (by first | omega | (dsimp only; omega)) leZ (psZ) Z pqD
   ·refine WLa Z (WL_set (s := 181) (v := .bool false) Z (by rw [hth]) ?_)
    refine WLa Z (WL_nil (WQ_code (WC_T Z (WCr (WLq Z (known_ok) Z pqD ?_)))))
    refine WLa Z (WL_nil (WQ_code (WC_ret ?_)))
    refine WQ1 Z (by
      exact ⟨rfl, rfl⟩) pqD
theorem holds_two (k : Nat) (W : List Int) (oa : Option Addr) (c : Nat) (ent : Ent) (ha : Rd oa ent W) (limit : Int) (brk : Nat) (op idle : Int) (keep : Nat) (p : Plan) (L : List A9) (oa2 : Option Addr) (c2 : Nat) (en2 : Ent) (ha2 : Arg oa2 en2 6 encA9 L) (hW : W.length ≤ 9223372036854775807) (hT : L.length ≤ 9223372036854775807) (hf : fewB W.length L 40) (hG : ∀ a ∈ L, a.now ≤ 18446744073709551615) (h : VOkB (k : Int) W limit brk) (hp : OkP p) (hq : POk op idle keep) (hsd : p.seed < 4294967296) (hkp : keep ≤ 18446744073709551615) : Spec Tryz.prog 4 [.agg (xsetL (k : Int) oa W.length c limit brk op idle keep p).toArray, .slice oa2 L.length c2] [ent, en2] (fun r H' => r = .bool true ∧ H' = [ent, en2]) := by
 have hL40 : L.length ≤ 40 := hf.2.1
 refine Spec.of (E := [(0, .agg (xsetL (k : Int) oa W.length c limit brk op idle keep p).toArray), (1, .slice oa2 L.length c2)]) Tryz.func4 rfl (by kernel_rfl) Tryz.ntmps4 rfl rfl (fun w => ?_)
 refine WCr (WLd Z (D_box (cs := [_, _, _, _, _, _, _, _, _, _, _, _, _, _]) Z Z Z) ?_)
 rintro _ _ ⟨b1, rfl, rfl⟩
 refine WLa Z (WL_nil (WQ_code (WC_seq (WCr (WLv Z (R_loadA (vs := [_, _, _, _, _, _, _, _, _, _, _, _, _, _]) Z ag30 Z mmD Z atZ) ?_)))))
 refine WLa Z (WLq Z (few_ok (k : Int) oa W.length c limit brk op idle keep p hW L oa2 c2 _ ha2 hT 40 (by omega)) Z pqD ?_)
 rw [decide_eq_true hf]
 refine WLa Z (WL_nil (WQ_code (WC_F Z (WC_skip (WQ_code (WCr (WLv Z (R_loadA (vs := [_, _, _, _, _, _, _, _, _, _, _, _, _, _]) Z ag30 Z mmD Z atZ) ?_)))))))
 refine WLc Z (xm_new k W oa c ent ha limit brk op idle keep p h hp hq hsd hkp) Z pqD ?_
 rintro _ _ ⟨_, ⟨m0, rfl, rfl, g0⟩, rfl⟩
 refine WLa Z (WLa Z (WLa Z (WLa Z (WLa Z (WL_nil (WQ_code (WC_seq (WCr (WLa Z (WLa Z (WL_set (s := 31) (v := .bool false) Z (by rfl) ?_)))))))))))
 refine WLa Z (WLa Z (WLv Z (R_ptrEqNil Z Tryz.underlying33 Z) ?_))
 refine WLa Z (WL_nil (WQ_code (WC_F Z (WC_skip (WQ_code (WCr (WLa Z (WL_nil (WQ_code (WCr (WLd Z (D_make (n := 101) Z si23 Z Z (by decide) (by decide)) ?_)))))))))))
 rintro _ _ ⟨b2, rfl, rfl⟩
 rw [tlL_zero]
 refine WLa Z (WL_nil (WQ_code (WC_seq (WCr (WLa Z (WL_nil (WQ_code (WC_block (WC_loopF (G := HcW) [4, 7, 9, 10, 11, 12, 13, 46, 47, 48, 49, 50, 51, 52, 53, 54, 55, 56, 57, 58, 59, 60, 61, 62, 63, 64, 65, 66, 67, 68, 69, 70, 71, 72, 73, 74, 75, 76, 77, 78, 79, 80, 81, 82, 83, 84, 85, 86, 87, 88, 89, 90, 91, 92, 93, 94, 95, 96, 97, 98, 99, 100, 101, 102, 103, 104, 105, 106, 107, 108, 109, 110, 111, 112, 113, 114, 115, 116, 117, 118, 119, 120, 121, 122, 123, 124, 125, 126, 127, 128, 129, 130, 131, 132, 133, 134, 135] (fun y => y.i ≤ L.length ∧ PXIs (141 * y.i) y.m y.x ∧ y.m.p = m0.p ∧ PXO y.i (102 * y.i) 0 y.x ∧ y.x.E = [] ∧ RX y.T (y.now + 1000) (-1) y.x ∧ y.x.now ≤ y.now ∧ y.now ≤ 1000 * y.i) (fun y => [(9, .int .i64 (y.i : Int)), (7, .int .u64 (y.now : Int))]) (fun y => pxK y.m y.x ++ [⟨some b2, cl (ivs (tlL y.T) ++ []) 3⟩]) (fun y => L.length - y.i) (⟨0, m0, px0 k W limit brk op idle keep p, fun _ => 0, 0⟩) (⟨Nat.zero_le _, g0, Z, PXO.new hp hq, Z, RX.new hp hq g0.vl, Nat.le_refl _, Nat.le_refl _⟩) leZ pqD ?_)))))))))
 rintro y ⟨hyi, gP, hyp, gO, hE0, hR, hyn, hyn2⟩
 rw [← hyp]
 refine WC_seq (WCr (WLa Z (WLa Z (WLv Z (R_len Z Tryz.underlying41 Z) ?_))))
 refine WLa Z (WL_nil (WQ_code ?_))
 refine WC_dec Z (fun c1 => ?_) (fun c1 => ?_)
 ·refine WC_skip (WQ_code (WC_seq (WC_block (WCr ?_))))
  obtain ⟨a, hak⟩ := getE (T := L) (i := y.i) (by omega)
  have hba := hG a (List.mem_of_getElem? hak)
  obtain ⟨lb, lk, lcs, le, lfr, rfl, rfl, hat⟩ := ha2.some (by omega)
  obtain ⟨un, hun, hun2⟩ := u64_nat a.n
  obtain ⟨nn, hnn⟩ : ∃ q, q = un % 101 := ⟨_, rfl⟩
  have hnn1 : nn ≤ 100 := by omega
  have hP100 : y.x.P.length ≤ 100 := by have := pxis_len gP; omega
  have hT := hR.toldE hE0
  refine WLa Z (WLa Z (WLv Z (R_indexAddrN Z Tryz.underlying41 Tryz.sizeOf43 Z Z (by omega)) ?_))
  refine WLv Z (R_loadAG (vs := encA9 a) Z ag43 Z mmD Z (hat y.i a hak)) ?_
  refine WLd Z (D_alloc Z zv43) ?_
  rintro _ _ ⟨b3, rfl, rfl⟩
  refine WLs (vs := [_, _, _, _, _, _]) Z Tryz.sizeOf43 Z Z plD (nb Z) ?_
  refine WL_nil (WQ_code (WCr (WLa Z (WLf Z fa43_2 (WLl Z sc25 mmD Z (WLv Z (R_remR (r := ((a.now % 1001 : Nat) : Int)) Z Z Z (by decide) (rem_nat a.now 1001)) ?_))))))
  refine WLv Z (R_addR (r := ((y.now + a.now % 1001 : Nat) : Int)) Z Z Z (by rw [w64 ⟨by omega, by omega⟩] <;> omega)) ?_
  refine WLa Z (WL_nil (WQ_code (WCr (WLf Z fa43_1 (WLl Z sc3 mmD Z (WLv Z (R_conv (r := ((un : Nat) : Int)) Z Tryz.underlying3 Tryz.underlying44 Z (hun)) ?_))))))
  refine WLv Z (R_remR (r := ((nn : Nat) : Int)) Z Z Z (by decide) (by rw [hnn]; exact rem_nat un 101)) ?_
  refine WLv Z (R_conv (r := ((nn : Nat) : Int)) Z Tryz.underlying44 Tryz.underlying3 Z (by rw [wrap64_in (by omega) (by omega)])) ?_
  refine WLa Z (WL_nil (WQ_code (WC_cutF (G := HdW) [4, 12, 13, 66, 67, 68, 69, 70, 71, 72, 73, 74, 75, 76, 77, 78, 79, 80, 81, 82, 83, 84, 85, 86, 87, 88, 89, 90, 91, 92, 93, 94, 95, 96, 97, 98, 99, 100, 101, 102, 103, 104, 105, 106, 107, 108, 109, 110, 111, 112, 113, 114, 115, 116, 117, 118, 119, 120, 121, 122, 123, 124, 125] (fun v => PXIs (141 * y.i + 141) v.m v.x ∧ v.m.p = y.m.p ∧ PXO (y.i + 1) (102 * y.i + 102) 200 v.x ∧ RX v.T ((y.now + a.now % 1001) + 1000) (-1) v.x ∧ v.x.now ≤ (y.now + a.now % 1001)) (fun v => []) (fun v => pxK v.m v.x ++ [⟨some b2, cl (ivs (tlL v.T) ++ []) 3⟩]) ((pxK y.m y.x ++ [⟨some b2, cl (ivs (tlL y.T) ++ []) 3⟩])) pqD ?_ ?_)))
  ·refine WCr (WLf Z fa43_0 (WLl Z sc3 mmD Z (WL_nil (WQ_code (WC_block (WCr (WLa Z (WLa Z (WL_nil (WQ_code ?_))))))))))
   refine WC_dec Z (fun c2 => ?_) (fun c2 => ?_)
   ·refine WCr (WLa Z (WLa Z (WLa Z (WLa Z (WLv Z (R_addR (r := (((y.now + a.now % 1001) + 1 : Nat) : Int)) Z Z Z (by rw [w64 ⟨by omega, by omega⟩] <;> omega)) ?_)))))
    refine WLf Z fa43_3 (WLl Z sc25 mmD Z (WLv Z (R_remR (r := ((a.dl % 1000 : Nat) : Int)) Z Z Z (by decide) (rem_nat a.dl 1000)) ?_))
    refine WLv Z (R_addR (r := (((y.now + a.now % 1001) + 1 + a.dl % 1000 : Nat) : Int)) Z Z Z (by rw [w64 ⟨by omega, by omega⟩] <;> omega)) ?_
    refine WLc Z (xm_begin gP gO (by omega) (by omega) (by omega) (nn : Int) (y.now + a.now % 1001) ((y.now + a.now % 1001) + 1 + a.dl % 1000) (by omega) ⟨#[]⟩) Z pqD ?_
    rintro _ _ ⟨_, ⟨m1, x1, rfl, rfl, h1, hp1, o1, hx1⟩, rfl⟩
    rw [← hp1]
    refine WLa Z (WL_nil (WQ_code (WCr ?_)))
    rcases hx1 with ⟨hbe, rfl⟩ | ⟨hbe, p9, rfl⟩
    ·have hq9 : ¬ y.T (nn : Int) = 0 := by rw [hT]; exact fun e => hbe ((beg_told (key := ⟨#[]⟩) (n := (nn : Int)) ⟨by omega, by omega⟩ (by decide) (by omega) (by omega) (by omega)).2 e)
     refine WLa Z (WLa Z (WL_set (s := 85) (v := .bool false) Z (by exact congrArg Value.bool (decide_eq_false (hbe))) ?_))
     refine WLa Z (WLa Z (WLv Z (R_indexAddrN Z Tryz.underlying23 Tryz.sizeOf3 Z Z (by omega)) ?_))
     refine WLv Z (R_load (v := .int .i64 (y.T (nn : Int))) Z sc3 Z mmD (fm_get0 encI1 (tlL_at y.T (n := nn) (by omega)) (j := 0) (by omega))) ?_
     refine WLa Z (WL_set (s := 90) (v := .bool false) Z (by exact congrArg Value.bool (decide_eq_false (hq9))) ?_)
     refine WLv Z (R_boolNe Z Tryz.underlying4 Z Z) ?_
     refine WL_set (s := 91) (v := .bool false) Z (by rfl) ?_
     refine WL_nil (WQ_code (WC_F Z (WCr (WLa Z (WLa Z (WL_set (s := 93) (v := .bool false) Z (by exact congrArg Value.bool (decide_eq_false (hbe))) ?_))))))
     refine WL_nil (WQ_code (WC_F Z (WC_skip ?_)))
     refine WQ_cutF (⟨m1, y.x, y.T⟩) (⟨h1.le (by first | omega | (dsimp only; omega)), by first | rfl | exact hp1 | exact hp1.trans hyp, o1.le (by first | omega | (dsimp only; omega)) (by first | omega | (dsimp only; omega)) (by first | omega | (dsimp only; omega)), hR.mono (by omega), by first | omega | (dsimp only; omega)⟩) leZ (psZ) pqD
    ·have hq9 : y.T (nn : Int) = 0 := by rw [hT]; exact (beg_told (key := ⟨#[]⟩) (n := (nn : Int)) ⟨by omega, by omega⟩ (by decide) (by omega) (by omega) (by omega)).1 hbe
     refine WLa Z (WLa Z (WL_set (s := 85) (v := .bool true) Z (by exact congrArg Value.bool (decide_eq_true (hbe))) ?_))
     refine WLa Z (WLa Z (WLv Z (R_indexAddrN Z Tryz.underlying23 Tryz.sizeOf3 Z Z (by omega)) ?_))
     refine WLv Z (R_load (v := .int .i64 (y.T (nn : Int))) Z sc3 Z mmD (fm_get0 encI1 (tlL_at y.T (n := nn) (by omega)) (j := 0) (by omega))) ?_
     refine WLa Z (WL_set (s := 90) (v := .bool true) Z (by exact congrArg Value.bool (decide_eq_true (hq9))) ?_)
     refine WLv Z (R_boolNe Z Tryz.underlying4 Z Z) ?_
     refine WL_set (s := 91) (v := .bool false) Z (by rfl) ?_
     refine WL_nil (WQ_code (WC_F Z (WCr (WLa Z (WLa Z (WL_set (s := 93) (v := .bool true) Z (by exact congrArg Value.bool (decide_eq_true (hbe))) ?_))))))
     refine WL_nil (WQ_code (WC_T Z (WC_region (WLa Z (WLa Z (WLv Z (R_indexAddrN Z Tryz.underlying23 Tryz.sizeOf3 Z Z (by omega)) ?_))))))
     refine WLs (vs := [_]) Z Tryz.sizeOf3 Z Z plD (by exact fm_room0 encI1 (show nn < (tlL y.T).length by rw [tlL_len]; omega) (j := 0) (by omega)) ?_
     rw [tlL_put y.T (n := nn) (by omega) 1]
     refine WL_nil ?_
     refine WQ_cutF (⟨m1, y.x.begin (nn : Int) (y.now + a.now % 1001) ((y.now + a.now % 1001) + 1 + a.dl % 1000) ⟨#[]⟩ p9, updT y.T (nn : Int) 1⟩) (⟨h1.le (by first | omega | (dsimp only; omega)), by first | rfl | exact hp1 | exact hp1.trans hyp, o1.le (by first | omega | (dsimp only; omega)) (by first | omega | (dsimp only; omega)) (by first | omega | (dsimp only; omega)), hR.begun hE0 gO.tr p9 hbe (D2 := (y.now + a.now % 1001) + 1000) (by omega) (by omega), Nat.le_of_eq (begin_now _ _ _ _ _ _)⟩) leZ (psZ) pqD
   ·refine WCr (WLa Z (WLa Z (WL_nil (WQ_code ?_))))
    refine WC_dec Z (fun c3 => ?_) (fun c3 => ?_)
    ·refine WC_region (WLa Z (WLa Z (WLf Z fa43_5 (WLl Z sc4 mmD Z (WLa Z (WLc Z (xm_dialed gP gO (by omega) (by omega) (nn : Int) a.good (y.now + a.now % 1001) (by omega)) Z pqD ?_))))))
     rintro _ _ ⟨_, ⟨m1, rfl, rfl, h1, hp1, o1⟩, rfl⟩
     rw [← hp1]
     refine WL_nil ?_
     refine WQ_cutF (⟨m1, y.x.dialX (nn : Int) a.good (y.now + a.now % 1001), y.T⟩) (⟨h1.le (by first | omega | (dsimp only; omega)), by first | rfl | exact hp1 | exact hp1.trans hyp, o1.le (by first | omega | (dsimp only; omega)) (by first | omega | (dsimp only; omega)) (by first | omega | (dsimp only; omega)), (RX.dialX gO hR (nn : Int) a.good (y.now + a.now % 1001)).mono (by omega), dialX_now (by omega)⟩) leZ (psZ) pqD
    ·refine WCr (WLa Z (WLa Z (WL_nil (WQ_code ?_))))
     refine WC_dec Z (fun c4 => ?_) (fun c4 => ?_)
     ·refine WCr (WLa Z (WLa Z (WLf Z fa43_5 (WLl Z sc4 mmD Z (WLa Z (WLc Z (xm_end gP gO (by omega) (by omega) (nn : Int) a.good (y.now + a.now % 1001) (by omega)) Z pqD ?_))))))
      rintro _ _ ⟨_, ⟨m1, rfl, rfl, h1, hp1, o1⟩, rfl⟩
      rw [← hp1]
      refine WLa Z (WL_nil (WQ_code (WCr ?_)))
      rcases Classical.em (y.x.inX (nn : Int) 4 (y.now + a.now % 1001) = 0) with he4 | he4
      ·have hq9 : y.T (nn : Int) = 2 := by rw [hT]; exact (end_told gO.g.nd ⟨by omega, by omega⟩ (by omega) (by omega)).1 he4
       refine WLa Z (WLa Z (WL_set (s := 114) (v := .bool true) Z (by exact congrArg Value.bool (decide_eq_true (he4))) ?_))
       refine WLa Z (WLa Z (WLv Z (R_indexAddrN Z Tryz.underlying23 Tryz.sizeOf3 Z Z (by omega)) ?_))
       refine WLv Z (R_load (v := .int .i64 (y.T (nn : Int))) Z sc3 Z mmD (fm_get0 encI1 (tlL_at y.T (n := nn) (by omega)) (j := 0) (by omega))) ?_
       refine WLa Z (WL_set (s := 119) (v := .bool true) Z (by exact congrArg Value.bool (decide_eq_true (hq9))) ?_)
       refine WLv Z (R_boolNe Z Tryz.underlying4 Z Z) ?_
       refine WL_set (s := 120) (v := .bool false) Z (by rfl) ?_
       refine WL_nil (WQ_code (WC_F Z (WCr (WLa Z (WLa Z (WL_set (s := 122) (v := .bool true) Z (by exact congrArg Value.bool (decide_eq_true (he4))) ?_))))))
       refine WL_nil (WQ_code (WC_T Z (WC_region (WLa Z (WLa Z (WLv Z (R_indexAddrN Z Tryz.underlying23 Tryz.sizeOf3 Z Z (by omega)) ?_))))))
       refine WLs (vs := [_]) Z Tryz.sizeOf3 Z Z plD (by exact fm_room0 encI1 (show nn < (tlL y.T).length by rw [tlL_len]; omega) (j := 0) (by omega)) ?_
       rw [tlL_put y.T (n := nn) (by omega) 0]
       refine WL_nil ?_
       refine WQ_cutF (⟨m1, y.x.endX (nn : Int) a.good (y.now + a.now % 1001), updT y.T (nn : Int) 0⟩) (⟨h1.le (by first | omega | (dsimp only; omega)), by first | rfl | exact hp1 | exact hp1.trans hyp, o1.le (by first | omega | (dsimp only; omega)) (by first | omega | (dsimp only; omega)) (by first | omega | (dsimp only; omega)), (RX.endX gO hR hE0 (nn : Int) a.good (y.now + a.now % 1001) he4).mono (by omega), endX_now (by omega)⟩) leZ (psZ) pqD
      ·have hq9 : ¬ y.T (nn : Int) = 2 := by rw [hT]; exact fun e => he4 ((end_told gO.g.nd ⟨by omega, by omega⟩ (by omega) (by omega)).2 e)
       refine WLa Z (WLa Z (WL_set (s := 114) (v := .bool false) Z (by exact congrArg Value.bool (decide_eq_false (he4))) ?_))
       refine WLa Z (WLa Z (WLv Z (R_indexAddrN Z Tryz.underlying23 Tryz.sizeOf3 Z Z (by omega)) ?_))
       refine WLv Z (R_load (v := .int .i64 (y.T (nn : Int))) Z sc3 Z mmD (fm_get0 encI1 (tlL_at y.T (n := nn) (by omega)) (j := 0) (by omega))) ?_
       refine WLa Z (WL_set (s := 119) (v := .bool false) Z (by exact congrArg Value.bool (decide_eq_false (hq9))) ?_)
       refine WLv Z (R_boolNe Z Tryz.underlying4 Z Z) ?_
       refine WL_set (s := 120) (v := .bool false) Z (by rfl) ?_
       refine WL_nil (WQ_code (WC_F Z (WCr (WLa Z (WLa Z (WL_set (s := 122) (v := .bool false) Z (by exact congrArg Value.bool (decide_eq_false (he4))) ?_))))))
       refine WL_nil (WQ_code (WC_F Z (WC_skip ?_)))
       refine WQ_cutF (⟨m1, y.x.endX (nn : Int) a.good (y.now + a.now % 1001), y.T⟩) (⟨h1.le (by first | omega | (dsimp only; omega)), by first | rfl | exact hp1 | exact hp1.trans hyp, o1.le (by first | omega | (dsimp only; omega)) (by first | omega | (dsimp only; omega)) (by first | omega | (dsimp only; omega)), by show RX y.T ((y.now + a.now % 1001) + 1000) (-1) (y.x.endX (nn : Int) a.good (y.now + a.now % 1001)); rw [endX_no he4]; exact hR.mono (by omega), endX_now (by omega)⟩) leZ (psZ) pqD
     ·refine WCr (WLa Z (WLa Z (WLc Z (xm_adv gP gO (by omega) (by omega) (by omega) (by omega) hP100 (y.now + a.now % 1001) (by omega)) Z pqD ?_)))
      rintro _ _ ⟨_, ⟨m1, rfl, rfl, h1, hp1, o1⟩, rfl⟩
      rw [← hp1]
      refine WLa Z (WL_set (s := 71) (v := .bool false) Z (by exact congrArg Value.bool (decide_eq_false (fun e => e (may_is (by omega) (by omega))))) ?_)
      refine WL_nil (WQ_code (WC_F Z (WC_skip ?_)))
      refine WQ_cutF (⟨m1, y.x.advX (y.now + a.now % 1001), y.T⟩) (⟨h1.le (by first | omega | (dsimp only; omega)), by first | rfl | exact hp1 | exact hp1.trans hyp, o1.le (by first | omega | (dsimp only; omega)) (by first | omega | (dsimp only; omega)) (by first | omega | (dsimp only; omega)), by show RX y.T ((y.now + a.now % 1001) + 1000) (-1) (y.x.advX (y.now + a.now % 1001)); rw [advX_is (by omega) (by omega)]; exact (hR.adv gO.tr (by omega) (by omega)).mono (by omega), by show (y.x.advX (y.now + a.now % 1001)).now ≤ (y.now + a.now % 1001); rw [advX_is (by omega) (by omega), adv_now]; exact Nat.le_refl _⟩) leZ (psZ) pqD
  ·rintro v ⟨gv, gvp, ov, Rv, nv⟩
   refine WCr ?_
   rw [← gvp]
   refine WLa Z (WLa Z (WLc Z (drained_ok gv Rv (by have := ov.e; omega) b2) Z pqD ?_))
   rintro _ _ ⟨_, ⟨m2, T2, rfl, rfl, h2, hp2, hR2⟩, rfl⟩
   rw [← hp2]
   refine WLa Z (WLa Z (WLa Z (WLa Z (WLq Z (apart_ok h2 hR2 (drp_E _) b2) Z pqD ?_))))
   refine WLa Z (WLa Z (WL_nil (WQ_code (WC_F Z (WC_skip (WQ_code (WC_region (WLa Z (WLv Z (R_add Z Z Z (by omega)) ?_)))))))))
   refine WLa Z (WL_nil ?_)
   refine WQ_nextF (⟨y.i + 1, m2, v.x.drp v.x.E.length, T2, (y.now + a.now % 1001)⟩) (⟨by first | omega | (dsimp only; omega), h2.le (by first | omega | (dsimp only; omega)), by first | rfl | exact hp2.trans gvp | exact hp2.trans (gvp.trans hyp), ov.drp.le (by first | omega | (dsimp only; omega)) (by first | omega | (dsimp only; omega)) (Nat.le_refl _), drp_E _, hR2, nv, by first | omega | (dsimp only; omega)⟩) (by first | omega | (dsimp only; omega)) leZ (psZ) Z pqD
 ·refine WC_exit (WQ_code (WC_seq (WCr (WLa Z (WL_nil (WQ_code (WC_block (WC_loopF (G := HtW) [4, 7, 14, 15, 16, 17, 18, 19, 136, 137, 138, 139, 140, 141, 142, 143, 144, 145, 146, 147, 148, 149, 150, 151, 152, 153, 154, 155, 156, 157, 158, 159, 160, 161, 162, 163, 164, 165, 166, 167, 168, 169, 170, 171, 172, 173, 174, 175, 176, 177, 178, 179, 180, 181, 182, 183, 184, 185, 186, 187, 188, 189, 190, 191, 192, 193, 194, 195] (fun z => z.t ≤ 1 ∧ PXIs (5640 + 1000 * z.t) z.m z.x ∧ z.m.p = y.m.p ∧ PXO (40 + 300 * z.t) (5000 + 1000 * z.t) 0 z.x ∧ z.x.E = [] ∧ RX z.T (y.now + 1000) (-1) z.x ∧ z.x.now ≤ z.now ∧ y.now ≤ z.now ∧ z.now ≤ 41000 + 1000 * z.t ∧ (z.t = 1 → ∀ q ∈ z.x.S, q.st = 3 ∨ q.st = 4)) (fun z => [(14, .int .i64 (z.t : Int)), (7, .int .u64 (z.now : Int))]) (fun z => pxK z.m z.x ++ [⟨some b2, cl (ivs (tlL z.T) ++ []) 3⟩]) (fun z => 2 - z.t) (⟨0, y.m, y.x, y.T, y.now⟩) (⟨Nat.zero_le _, gP.le (by first | omega | (dsimp only; omega)), Z, gO.le (by first | omega | (dsimp only; omega)) (by first | omega | (dsimp only; omega)) (Nat.le_refl _), hE0, hR, hyn, Nat.le_refl _, by first | omega | (dsimp only; omega), fun q => absurd q (by first | omega | (dsimp only; omega))⟩) leZ pqD ?_))))))))
  rintro z ⟨hzt, gz, hzp, oz, hEz, Rz, nz, hz1, hz2, fz⟩
  rw [← hzp]
  refine WC_seq (WCr (WLa Z (WLa Z (WL_nil (WQ_code (WC_dT Z (by omega) ?_))))))
  refine WC_skip (WQ_code (WC_seq (WC_block (WCr (WLa Z (WL_nil (WQ_code (WC_seq (WCr (WLa Z (WL_nil (WQ_code (WC_block (WC_loopF (G := HnW) [4, 15, 16, 17, 18, 19, 140, 141, 142, 143, 144, 145, 146, 147, 148, 149, 150, 151, 152, 153, 154, 155, 156, 157, 158, 159, 160, 161, 162, 163, 164, 165, 166, 167, 168, 169, 170, 171, 172, 173, 174, 175, 176, 177, 178, 179, 180] (fun u => u.n ≤ 101 ∧ PXIs (5640 + 1000 * z.t + 6 * u.n) u.m u.x ∧ u.m.p = z.m.p ∧ PXO (40 + 300 * z.t + 2 * u.n) (5000 + 1000 * z.t + 2 * u.n) 0 u.x ∧ u.x.E = [] ∧ RX u.T (y.now + 1000) (-1) u.x ∧ u.x.now ≤ z.now ∧ (z.t = 1 → Fin (u.n : Int) u.x ∧ u.th = false)) (fun u => [(16, .int .i64 (u.n : Int)), (15, .bool u.th)]) (fun u => pxK u.m u.x ++ [⟨some b2, cl (ivs (tlL u.T) ++ []) 3⟩]) (fun u => 101 - u.n) (⟨0, z.m, z.x, z.T, false⟩) (⟨Nat.zero_le _, gz.le (by first | omega | (dsimp only; omega)), Z, oz.le (by first | omega | (dsimp only; omega)) (by first | omega | (dsimp only; omega)) (Nat.le_refl _), hEz, Rz, nz, fun q => ⟨Fin.zero Rz (fz q), Z⟩⟩) leZ pqD ?_))))))))))))))
  rintro u ⟨hun9, hu, hup, ou, hEu, Ru, nu, fu⟩
  rw [← hup]
  refine WC_seq (WCr (WLa Z (WLa Z (WL_nil (WQ_code ?_)))))
  refine WC_dec Z (fun c5 => ?_) (fun c5 => ?_)
  ·refine WC_skip (WQ_code (WC_seq (WC_block (WCr (WLa Z (WLa Z (WLa Z (WLc Z (xm_dialed hu ou (by omega) (by omega) (u.n : Int) true z.now (by omega)) Z pqD ?_))))))))
   rintro _ _ ⟨_, ⟨m1, rfl, rfl, h1, hp1, o1⟩, rfl⟩
   rw [← hp1]
   have R1 := RX.dialX ou Ru (u.n : Int) true z.now
   have hn1 := dialX_now (n := (u.n : Int)) (good := true) nu
   have F1 : z.t = 1 → Fin2 (u.n : Int) (u.x.dialX (u.n : Int) true z.now) := fun q => (fu q).1.dial ou ⟨by omega, by omega⟩ nu (by omega)
   refine WL_nil (WQ_code (WC_seq (WCr (WLa Z (WLa Z (WLc Z (drained_ok h1 R1 (by have := o1.e; omega) b2) Z pqD ?_))))))
   rintro _ _ ⟨_, ⟨m2, T2, rfl, rfl, h2, hp2, hR2⟩, rfl⟩
   rw [← hp2]
   have hT2 := hR2.toldE (drp_E _)
   have hn2 : ((u.x.dialX (u.n : Int) true z.now).drp (u.x.dialX (u.n : Int) true z.now).E.length).now ≤ z.now := hn1
   have hin := end_told (n := (u.n : Int)) hR2.g.nd ⟨by omega, by omega⟩ hn2 (by omega)
   rw [← hT2] at hin
   refine WLa Z (WL_nil (WQ_code (WC_F Z (WC_skip (WQ_code (WC_seq (WCr (WLa Z (WLa Z (WLv Z (R_indexAddrN Z Tryz.underlying23 Tryz.sizeOf3 Z Z (by omega)) ?_))))))))))
   refine WLv Z (R_load (v := .int .i64 (T2 (u.n : Int))) Z sc3 Z mmD (fm_get0 encI1 (tlL_at T2 (n := u.n) (by omega)) (j := 0) (by omega))) ?_
   refine WLa Z (WL_nil (WQ_code ?_))
   refine WC_dec Z (fun c6 => ?_) (fun c6 => ?_)
   ·have ht2 : T2 (u.n : Int) = 2 := c6
    refine WC_seq (WCr (WLa Z (WLa Z (WLa Z (WLc Z (xm_end h2 o1.drp (by omega) (by omega) (u.n : Int) true z.now (by omega)) Z pqD ?_)))))
    rintro _ _ ⟨_, ⟨m3, rfl, rfl, h3, hp3, o3⟩, rfl⟩
    rw [← hp3]
    have R3 := RX.endX o1.drp hR2 (drp_E _) (u.n : Int) true z.now (hin.2 ht2)
    have hn3 := endX_now (n := (u.n : Int)) (good := true) hn2
    refine WLa Z (WL_set (s := 161) (v := .bool false) Z (by exact congrArg Value.bool (decide_eq_false (fun e => e (hin.2 ht2)))) ?_)
    refine WL_nil (WQ_code (WC_F Z (WC_skip (WQ_code (WCr (WLa Z (WLa Z (WLv Z (R_indexAddrN Z Tryz.underlying23 Tryz.sizeOf3 Z Z (by omega)) ?_))))))))
    refine WLs (vs := [_]) Z Tryz.sizeOf3 Z Z plD (by exact fm_room0 encI1 (show u.n < (tlL T2).length by rw [tlL_len]; omega) (j := 0) (by omega)) ?_
    rw [tlL_put T2 (n := u.n) (by omega) 0]
    refine WL_nil (WQ_code (WCr (WLa Z (WLa Z (WLc Z (drained_ok h3 R3 (by have := o3.e; omega) b2) Z pqD ?_)))))
    rintro _ _ ⟨_, ⟨m4, T4, rfl, rfl, h4, hp4, hR4⟩, rfl⟩
    rw [← hp4]
    refine WLa Z (WL_nil (WQ_code (WC_F Z (WC_skip (WQ_code (WCr (WLa Z (WLa Z (WLc Z (xm_state h4 (u.n : Int)) Z pqD ?_)))))))))
    rintro _ _ ⟨_, ⟨rfl, rfl⟩, rfl⟩
    refine WLa Z (WLa Z (WLa Z (WLa Z (WLa Z (WLa Z (WLa Z (WL_nil (WQ_code (WC_region ?_)))))))))
    rcases Bool.eq_false_or_eq_true u.th with hth | hth
    ·refine WLa Z (WL_set (s := 176) (v := .bool true) Z (by rw [hth]) ?_)
     refine WLa Z (WLa Z (WLa Z (WLa Z (WLa Z (WL_nil (WQ_code (WC_region (WLa Z (WLv Z (R_add Z Z Z (by omega)) ?_)))))))))
     refine WLa Z (WL_nil ?_)
     refine WQ_nextF (⟨u.n + 1, m4, ((((u.x.dialX (u.n : Int) true z.now).drp (u.x.dialX (u.n : Int) true z.now).E.length).endX (u.n : Int) true z.now).drp (((u.x.dialX (u.n : Int) true z.now).drp (u.x.dialX (u.n : Int) true z.now).E.length).endX (u.n : Int) true z.now).E.length), T4, true⟩) (⟨by first | omega | (dsimp only; omega), h4.le (by first | omega | (dsimp only; omega)), by first | rfl | exact hp4.trans (hp3.trans (hp2.trans hp1)) | exact hp4.trans (hp3.trans (hp2.trans (hp1.trans hup))), o3.drp.le (by first | omega | (dsimp only; omega)) (by first | omega | (dsimp only; omega)) (Nat.le_refl _), drp_E _, hR4, hn3, fun q => by have q2 := (fu q).2; rw [q2] at hth; cases hth⟩) (by first | omega | (dsimp only; omega)) leZ (psZ) Z pqD
    ·refine WLa Z (WL_set (s := 176) (v := .bool false) Z (by rw [hth]) ?_)
     refine WLa Z (WLa Z (WLa Z (WLa Z (WLa Z (WL_nil (WQ_code (WC_region (WLa Z (WLv Z (R_add Z Z Z (by omega)) ?_)))))))))
     refine WLa Z (WL_nil ?_)
     refine WQ_nextF (⟨u.n + 1, m4, ((((u.x.dialX (u.n : Int) true z.now).drp (u.x.dialX (u.n : Int) true z.now).E.length).endX (u.n : Int) true z.now).drp (((u.x.dialX (u.n : Int) true z.now).drp (u.x.dialX (u.n : Int) true z.now).E.length).endX (u.n : Int) true z.now).E.length), T4, decide ((((((u.x.dialX (u.n : Int) true z.now).drp (u.x.dialX (u.n : Int) true z.now).E.length).endX (u.n : Int) true z.now).drp (((u.x.dialX (u.n : Int) true z.now).drp (u.x.dialX (u.n : Int) true z.now).E.length).endX (u.n : Int) true z.now).E.length).stX (u.n : Int)).1 ≠ 0)⟩) (⟨by first | omega | (dsimp only; omega), h4.le (by first | omega | (dsimp only; omega)), by first | rfl | exact hp4.trans (hp3.trans (hp2.trans hp1)) | exact hp4.trans (hp3.trans (hp2.trans (hp1.trans hup))), o3.drp.le (by first | omega | (dsimp only; omega)) (by first | omega | (dsimp only; omega)) (Nat.le_refl _), drp_E _, hR4, hn3, fun q => ⟨Fin2.end_ o1.drp (F1 q) (hin.2 ht2), by dsimp only; exact decide_eq_false (fun e => e (Fin.st (Fin2.end_ o1.drp (F1 q) (hin.2 ht2))))⟩⟩) (by first | omega | (dsimp only; omega)) leZ (psZ) Z pqD
   ·have ht2 : ¬ T2 (u.n : Int) = 2 := c6
    refine WC_skip (WQ_code (WCr (WLa Z (WLa Z (WLc Z (xm_state h2 (u.n : Int)) Z pqD ?_)))))
    rintro _ _ ⟨_, ⟨rfl, rfl⟩, rfl⟩
    refine WLa Z (WLa Z (WLa Z (WLa Z (WLa Z (WLa Z (WLa Z (WL_nil (WQ_code (WC_region ?_)))))))))
    rcases Bool.eq_false_or_eq_true u.th with hth | hth
    ·refine WLa Z (WL_set (s := 176) (v := .bool true) Z (by rw [hth]) ?_)
     refine WLa Z (WLa Z (WLa Z (WLa Z (WLa Z (WL_nil (WQ_code (WC_region (WLa Z (WLv Z (R_add Z Z Z (by omega)) ?_)))))))))
     refine WLa Z (WL_nil ?_)
     refine WQ_nextF (⟨u.n + 1, m2, ((u.x.dialX (u.n : Int) true z.now).drp (u.x.dialX (u.n : Int) true z.now).E.length), T2, true⟩) (⟨by first | omega | (dsimp only; omega), h2.le (by first | omega | (dsimp only; omega)), by first | rfl | exact hp2.trans hp1 | exact hp2.trans (hp1.trans hup), o1.drp.le (by first | omega | (dsimp only; omega)) (by first | omega | (dsimp only; omega)) (Nat.le_refl _), drp_E _, hR2, hn2, fun q => by have q2 := (fu q).2; rw [q2] at hth; cases hth⟩) (by first | omega | (dsimp only; omega)) leZ (psZ) Z pqD
    ·refine WLa Z (WL_set (s := 176) (v := .bool false) Z (by rw [hth]) ?_)
     refine WLa Z (WLa Z (WLa Z (WLa Z (WLa Z (WL_nil (WQ_code (WC_region (WLa Z (WLv Z (R_add Z Z Z (by omega)) ?_)))))))))
     refine WLa Z (WL_nil ?_)
     refine WQ_nextF (⟨u.n + 1, m2, ((u.x.dialX (u.n : Int) true z.now).drp (u.x.dialX (u.n : Int) true z.now).E.length), T2, decide ((((u.x.dialX (u.n : Int) true z.now).drp (u.x.dialX (u.n : Int) true z.now).E.length).stX (u.n : Int)).1 ≠ 0)⟩) (⟨by first | omega | (dsimp only; omega), h2.le (by first | omega | (dsimp only; omega)), by first | rfl | exact hp2.trans hp1 | exact hp2.trans (hp1.trans hup), o1.drp.le (by first | omega | (dsimp only; omega)) (by first | omega | (dsimp only; omega)) (Nat.le_refl _), drp_E _, hR2, hn2, fun q => ⟨Fin2.no hR2.g.nd (F1 q) (by rw [← hT2]; exact ht2), by dsimp only; exact decide_eq_false (fun e => e (Fin.st (Fin2.no hR2.g.nd (F1 q) (by rw [← hT2]; exact ht2))))⟩⟩) (by first | omega | (dsimp only; omega)) leZ (psZ) Z pqD
  ·have hu101 : u.n = 101 := by omega
   refine WC_exit (WQ_code (WC_seq (WCr ?_)))
   rcases Bool.eq_false_or_eq_true u.th with hth | hth
   ·have ht0 : z.t = 0 := by rcases Nat.lt_or_ge z.t 1 with q | q; omega; have q2 := (fu (by omega)).2; rw [q2] at hth; cases hth
    refine WLa Z (WL_set (s := 181) (v := .bool true) Z (by rw [hth]) ?_)
    refine WLa Z (WL_nil (WQ_code (WC_F Z (WC_skip (WQ_code (WCr (WLa Z (WLv Z (R_addR (r := ((z.now + 1000 : Nat) : Int)) Z Z Z (by rw [w64 ⟨by omega, by omega⟩] <;> omega)) ?_))))))))
    refine WLa Z (WL_nil (WQ_code (WCr (WLa Z (WLa Z (WLc Z (xm_adv hu ou (by omega) (by omega) (by omega) (by omega) (by have := pxis_len hu; omega) (z.now + 1000) (by omega)) Z pqD ?_))))))
    rintro _ _ ⟨_, ⟨m1, rfl, rfl, h1, hp1, o1⟩, rfl⟩
    rw [← hp1]
    have R1 : RX u.T (y.now + 1000) (-1) (u.x.advX (z.now + 1000)) := by rw [advX_is (by omega) (by omega)]; exact Ru.adv ou.tr (by omega) (by omega)
    refine WLa Z (WL_set (s := 189) (v := .bool false) Z (by exact congrArg Value.bool (decide_eq_false (fun e => e (may_is (by omega) (by omega))))) ?_)
    refine WLa Z (WLa Z (WLa Z (WLc Z (drained_ok h1 R1 (by have := o1.e; omega) b2) Z pqD ?_)))
    rintro _ _ ⟨_, ⟨m2, T2, rfl, rfl, h2, hp2, hR2⟩, rfl⟩
    rw [← hp2]
    refine WLa Z (WLa Z (WL_nil (WQ_code (WC_F Z (WC_skip (WQ_code (WC_region (WLa Z (WLv Z (R_add Z Z Z (by omega)) ?_)))))))))
    refine WLa Z (WL_nil ?_)
    refine WQ_nextF (⟨z.t + 1, m2, (u.x.advX (z.now + 1000)).drp (u.x.advX (z.now + 1000)).E.length, T2, z.now + 1000⟩) (⟨by first | omega | (dsimp only; omega), h2.le (by first | omega | (dsimp only; omega)), by first | rfl | exact hp2.trans hp1 | exact hp2.trans (hp1.trans hup) | exact hp2.trans (hp1.trans (hup.trans hzp)), o1.drp.le (by first | omega | (dsimp only; omega)) (by first | omega | (dsimp only; omega)) (Nat.le_refl _), drp_E _, hR2, by rw [advX_is (by omega) (by omega)]; show (u.x.adv (z.now + 1000)).now ≤ z.now + 1000; rw [adv_now]; exact Nat.le_refl _, by first | omega | (dsimp only; omega), by first | omega | (dsimp only; omega), fun _ => by rw [advX_is (by omega) (by omega)]; exact Ru.late (fun si hs => (ou.b si hs).1) (by omega) (by omega) (by omega)⟩) (by first | omega | (dsimp only; omega)) leZ (psZ) Z pqD
   ·refine WLa Z (WL_set (s := 181) (v := .bool false) Z (by rw [hth]) ?_)
    refine WLa Z (WL_nil (WQ_code (WC_T Z (WCr (WLq Z (known_ok) Z pqD ?_)))))
    refine WLa Z (WL_nil (WQ_code (WC_ret ?_)))
    refine WQ1 Z (by
      exact ⟨rfl, rfl⟩) pqD
end Go.Proofs.YtelmlkdibcdebaaGreat
