/-
  Chapter 46 (pool), part Hold: contracts of functions that the laws call, each for the heap it names.
-/
import Derived.Test.YteofigbgdbpjgaaRows
import Derived.Test.YteofigbgdbpjgaaZB
import Derived.Test.YteofigbgdbpjgaaSLMapJ
import Derived.Test.YteofigbgdbpjgaaSLScope
import Derived.Test.YteofigbgdbpjgaaTab
import Derived.Test.YteofigbgdbpjgaaHoldA
import Derived.Test.YteofigbgdbpjgaaKnown
import Derived.Test.YteofigbgdbpjgaaPoolI
import Derived.Test.YteofigbgdbpjgaaPoolF
import Derived.Test.YteofigbgdbpjgaaPoolG
import Derived.Test.YteofigbgdbpjgaaSLCut
import Derived.Test.YteofigbgdbpjgaaZA
set_option linter.unusedVariables false
set_option maxRecDepth 20000
set_option maxHeartbeats 16000000
namespace Go.Proofs.Yteofigbgdbpjgaa

theorem i64_in9 {n : Int} (h : 0 ≤ n ∧ n ≤ 9223372036854775807) : IntKind.i64.wrap n = n := IntWalk.i64_in n (by omega)

theorem holds_bad (op most : Int) (keep : Nat) (oa : Option Addr) (n c : Nat) (h : vB op most keep = false ∨ 40 < n) : Spec Try.prog 4 [.int .i64 op, .int .i64 most, .int .u64 (keep : Int), .slice oa n c] [] (fun r H' => r = .bool true ∧ H' = []) := by
  refine Spec.of (E := [(0, .int .i64 op), (1, .int .i64 most), (2, .int .u64 (keep : Int)), (3, .slice oa n c)]) Try.func4 rfl (by kernel_rfl) Try.ntmps4 rfl rfl (fun w => ?_)
  refine WC_seq ?_
  refine WC_region ?_
  refine WL_val rfl rfl rfl (R_assign rfl rfl) ?_
  refine WL_nil ?_
  refine WQ_code ?_
  refine WC_seq ?_
  refine WC_seq ?_
  refine WC_region ?_
  refine WL_val rfl rfl rfl (R_move rfl rfl) ?_
  refine WL_val rfl rfl rfl (R_move rfl rfl) ?_
  refine WL_val rfl rfl rfl (R_move rfl rfl) ?_
  refine WL_do rfl rfl rfl (D_call (valid_ok op most keep) rfl rfl rfl rfl (pqZ)) ?_
  rintro _ _ ⟨_, ⟨rfl, rfl⟩, rfl⟩
  refine WL_val rfl rfl rfl (R_not rfl rfl) ?_
  refine WL_val rfl rfl rfl (R_move rfl rfl) ?_
  refine WL_split (s := 28) rfl (fun c1 => ?_) (fun c1 => ?_)
  · refine WL_skip rfl rfl rfl ?_
    refine WL_skip rfl rfl rfl ?_
    refine WL_skip rfl rfl rfl ?_
    refine WL_val rfl rfl rfl (R_pickT rfl rfl rfl) ?_
    refine WL_nil ?_
    refine WQ_code ?_
    refine WC_T rfl ?_
    refine WC_seq ?_
    refine WC_region ?_
    refine WL_do rfl rfl rfl (D_call (known_ok) rfl rfl rfl rfl (pqZ)) ?_
    rintro _ _ ⟨_, ⟨rfl, rfl⟩, rfl⟩
    refine WL_val rfl rfl rfl (R_assign rfl rfl) ?_
    refine WL_nil ?_
    refine WQ_code ?_
    refine WC_ret ?_
    refine WQ_ret rfl rfl (.cons (.tmp rfl) .nil) rfl (by
        exact ⟨rfl, rfl⟩) (pqZ)
  · have hv : vB op most keep = true := by simpa using c1
    refine WL_val rfl rfl rfl (R_move rfl rfl) ?_
    refine WL_val rfl rfl rfl (R_len rfl Try.underlying37 rfl) ?_
    refine WL_val rfl rfl rfl (R_gtr rfl rfl rfl) ?_
    refine WL_val rfl rfl rfl (R_pickF rfl rfl rfl) ?_
    refine WL_nil ?_
    refine WQ_code ?_
    refine WC_dT rfl (by rw [hv] at h; simp at h; omega) ?_
    refine WC_seq ?_
    refine WC_region ?_
    refine WL_do rfl rfl rfl (D_call (known_ok) rfl rfl rfl rfl (pqZ)) ?_
    rintro _ _ ⟨_, ⟨rfl, rfl⟩, rfl⟩
    refine WL_val rfl rfl rfl (R_assign rfl rfl) ?_
    refine WL_nil ?_
    refine WQ_code ?_
    refine WC_ret ?_
    refine WQ_ret rfl rfl (.cons (.tmp rfl) .nil) rfl (by
        exact ⟨rfl, rfl⟩) (pqZ)
theorem holds_ok (op most keep : Nat) (ho : 1 ≤ op ∧ op ≤ 64) (hmo : most ≤ 64) (hkp : 1 ≤ keep ∧ keep ≤ 18446744073709551615) (l : List Ac46) (hl : l.length ≤ 40) (oa : Option Addr) (ent : Ent) (c : Nat) (ha : Arg oa ent 5 encA46 l) : Spec Try.prog 4 [.int .i64 (op : Int), .int .i64 (most : Int), .int .u64 (keep : Int), .slice oa l.length c] [ent] (fun r H' => r = .bool true ∧ H' = [ent]) := by
  have hvb : vB (op : Int) (most : Int) keep = true := decide_eq_true (by omega)
  refine Spec.of (E := [(0, .int .i64 (op : Int)), (1, .int .i64 (most : Int)), (2, .int .u64 (keep : Int)), (3, .slice oa l.length c)]) Try.func4 rfl (by kernel_rfl) Try.ntmps4 rfl rfl (fun w => ?_)
  refine WC_seq ?_
  refine WC_region ?_
  refine WL_val rfl rfl rfl (R_assign rfl rfl) ?_
  refine WL_nil ?_
  refine WQ_code ?_
  refine WC_seq ?_
  refine WC_seq ?_
  refine WC_region ?_
  refine WL_val rfl rfl rfl (R_move rfl rfl) ?_
  refine WL_val rfl rfl rfl (R_move rfl rfl) ?_
  refine WL_val rfl rfl rfl (R_move rfl rfl) ?_
  refine WL_do rfl rfl rfl (D_call (valid_ok (op : Int) (most : Int) keep) rfl rfl rfl rfl (pqZ)) ?_
  rintro _ _ ⟨_, ⟨rfl, rfl⟩, rfl⟩
  refine WL_val rfl rfl rfl (R_not rfl rfl) ?_
  refine WL_val rfl rfl rfl (R_move rfl rfl) ?_
  refine WL_set (s := 28) (v := .bool false) rfl (by simp [hvb]) ?_
  refine WL_val rfl rfl rfl (R_move rfl rfl) ?_
  refine WL_val rfl rfl rfl (R_len rfl Try.underlying37 rfl) ?_
  refine WL_val rfl rfl rfl (R_gtr rfl rfl rfl) ?_
  refine WL_val rfl rfl rfl (R_pickF rfl rfl rfl) ?_
  refine WL_nil ?_
  refine WQ_code ?_
  refine WC_dF rfl (by omega) ?_
  refine WC_skip ?_
  refine WQ_code ?_
  refine WC_seq ?_
  refine WC_region ?_
  refine WL_val rfl rfl rfl (R_move rfl rfl) ?_
  refine WL_val rfl rfl rfl (R_move rfl rfl) ?_
  refine WL_val rfl rfl rfl (R_move rfl rfl) ?_
  refine WL_do rfl rfl rfl (D_call (pnew_ok op most keep ho hmo hkp) rfl rfl rfl rfl (pqZ)) ?_
  rintro _ _ ⟨_, ⟨m0, rfl, rfl, g0⟩, rfl⟩
  refine WL_val rfl rfl rfl (R_move rfl rfl) ?_
  refine WL_val rfl rfl rfl (R_extract rfl rfl rfl) ?_
  refine WL_val rfl rfl rfl (R_extract rfl rfl rfl) ?_
  refine WL_val rfl rfl rfl (R_assign rfl rfl) ?_
  refine WL_val rfl rfl rfl (R_assign rfl rfl) ?_
  refine WL_nil ?_
  refine WQ_code ?_
  refine WC_seq ?_
  refine WC_seq ?_
  refine WC_region ?_
  refine WL_val rfl rfl rfl (R_move rfl rfl) ?_
  refine WL_val rfl rfl rfl (R_ptrEqNil rfl Try.underlying23 rfl) ?_
  refine WL_val rfl rfl rfl (R_move rfl rfl) ?_
  refine WL_val rfl rfl rfl (R_move rfl rfl) ?_
  refine WL_val rfl rfl rfl (R_neq rfl rfl rfl) ?_
  refine WL_val rfl rfl rfl (R_pickF rfl rfl rfl) ?_
  refine WL_nil ?_
  refine WQ_code ?_
  refine WC_dF rfl (by simp) ?_
  refine WC_skip ?_
  refine WQ_code ?_
  refine WC_seq ?_
  refine WC_region ?_
  refine WL_val rfl rfl rfl (R_assign rfl rfl) ?_
  refine WL_nil ?_
  refine WQ_code ?_
  refine WC_seq ?_
  refine WC_region ?_
  refine WL_do rfl rfl rfl (D_alloc (zs := hdV (fun _ => 0)) rfl zvHD) ?_
  rintro _ _ ⟨bh, rfl, rfl⟩
  refine WL_nil ?_
  refine WQ_code ?_
  refine WC_seq ?_
  refine WC_seq ?_
  refine WC_region ?_
  refine WL_val rfl rfl rfl (R_assign rfl rfl) ?_
  refine WL_nil ?_
  refine WQ_code ?_
  refine WC_block ?_
  rw [show (fun _ => 0 : Nat → Int) = hOf (PS.new op most keep).C from (hOf_new op most keep).symm]
  refine WC_loopF (G := HoW) [8, 11, 13, 14, 15, 16, 17, 18, 19, 47, 48, 49, 50, 51, 52, 53, 54, 55, 56, 57, 58, 59, 60, 61, 62, 63, 64, 65, 66, 67, 68, 69, 70, 71, 72, 73, 74, 75, 76, 77, 78, 79, 80, 81, 82, 83, 84, 85, 86, 87, 88, 89, 90, 91, 92, 93, 94, 95, 96, 97, 98, 99, 100, 101, 102, 103, 104, 105, 106, 107, 108, 109, 110, 111, 112, 113, 114, 115, 116, 117, 118, 119, 120, 121, 122, 123, 124, 125, 126, 127, 128, 129, 130, 131, 132, 133, 134, 135, 136, 137, 138, 139, 140, 141, 142, 143, 144, 145, 146, 147, 148, 149, 150, 151, 152, 153, 154] (fun y => y.k ≤ l.length ∧ PIs y.m y.s ∧ y.m.p = m0.p ∧ PH y.s ∧ y.s.E = [] ∧ wt y.s ≤ y.k ∧ y.s.n ≤ y.k ∧ y.s.now ≤ y.t ∧ y.t ≤ 1000000 * y.k ∧ y.s.op = op ∧ y.s.most = most) (fun y => [(13, .int .i64 (y.k : Int)), (11, .int .u64 (y.t : Int))]) (fun y => poH y.m y.s ++ [⟨some bh, cl (hdV (hOf y.s.C)) 39⟩]) (fun y => l.length - y.k) (⟨0, m0, PS.new op most keep, 0⟩) (⟨Nat.zero_le _, g0, rfl, ph_new ho hmo, rfl, Nat.le_of_eq (wt_new _ _ _), Nat.le_refl _, Nat.le_refl _, Nat.zero_le _, rfl, rfl⟩) leZ (pqZ) ?_
  rintro y ⟨hyk, gy, hyp, hph, hyE, hyw, hyn, hyt, hyt2, hyop, hymo⟩
  rw [← hyp]
  have hyq := q_wt y.s
  refine WC_seq ?_
  refine WC_seq ?_
  refine WC_region ?_
  refine WL_val rfl rfl rfl (R_move rfl rfl) ?_
  refine WL_val rfl rfl rfl (R_move rfl rfl) ?_
  refine WL_val rfl rfl rfl (R_len rfl Try.underlying37 rfl) ?_
  refine WL_val rfl rfl rfl (R_lss rfl rfl rfl) ?_
  refine WL_nil ?_
  refine WQ_code ?_
  refine WC_dec rfl (fun c1 => ?_) (fun c1 => ?_)
  · refine WC_skip ?_
    refine WQ_code ?_
    refine WC_seq ?_
    refine WC_block ?_
    refine WC_seq ?_
    refine WC_region ?_
    refine WL_val rfl rfl rfl (R_move rfl rfl) ?_
    refine WL_val rfl rfl rfl (R_move rfl rfl) ?_
    obtain ⟨a, hak⟩ := getE (T := l) (i := y.k) (by omega)
    obtain ⟨lb, lk, lcs, le, lfr, rfl, rfl, hat⟩ := ha.some (by omega)
    obtain ⟨q, hq, hq64⟩ := mod64 a.n
    refine WL_val rfl rfl rfl (R_indexAddrN rfl Try.underlying37 Try.sizeOf41 rfl rfl (by omega)) ?_
    refine WL_val rfl rfl rfl (R_loadAG (vs := encA46 a) rfl ag41 rfl (mmZ) rfl (hat y.k a hak)) ?_
    refine WL_do rfl rfl rfl (D_alloc rfl zv41) ?_
    rintro _ _ ⟨b1, rfl, rfl⟩
    refine WL_do0 rfl rfl (D_store (vs := [_, _, _, _, _]) rfl Try.sizeOf41 rfl rfl rfl rfl rfl (plZ) (by exact Nat.le_of_ble_eq_true rfl)) ?_
    rintro _ _ rfl
    refine WL_nil ?_
    refine WQ_code ?_
    refine WC_seq ?_
    refine WC_seq ?_
    refine WC_region ?_
    refine WL_val rfl rfl rfl (R_fieldAddr rfl fa41_2 rfl) ?_
    refine WL_val rfl rfl rfl (R_load rfl sc28 rfl (mmZ) rfl) ?_
    refine WL_val rfl rfl rfl (R_gtr rfl rfl rfl) ?_
    refine WL_nil ?_
    refine WQ_code ?_
    refine WC_dec rfl (fun c2 => ?_) (fun c2 => ?_)
    · refine WC_exit ?_
      refine WQ_code ?_
      refine WC_region ?_
      refine WL_val rfl rfl rfl (R_move rfl rfl) ?_
      refine WL_val rfl rfl rfl (R_add rfl rfl rfl (by omega)) ?_
      refine WL_val rfl rfl rfl (R_assign rfl rfl) ?_
      refine WL_nil ?_
      refine WQ_nextF (⟨y.k + 1, y.m, y.s, y.t⟩) (⟨by dsimp only; omega, gy, by first | rfl | exact hyp, hph, hyE, by dsimp only; omega, by dsimp only; omega, hyt, by dsimp only; omega, hyop, hymo⟩) (by dsimp only; omega) leZ (psZ) rfl (pqZ)
    · refine WC_skip ?_
      refine WQ_code ?_
      refine WC_seq ?_
      refine WC_region ?_
      refine WL_val rfl rfl rfl (R_move rfl rfl) ?_
      refine WL_val rfl rfl rfl (R_fieldAddr rfl fa41_2 rfl) ?_
      refine WL_val rfl rfl rfl (R_load rfl sc28 rfl (mmZ) rfl) ?_
      refine WL_val rfl rfl rfl (R_addR (r := ((y.t + a.now : Nat) : Int)) rfl rfl rfl (by rw [w64 ⟨by omega, by omega⟩]; omega)) ?_
      refine WL_val rfl rfl rfl (R_assign rfl rfl) ?_
      refine WL_nil ?_
      refine WQ_code ?_
      refine WC_seq ?_
      refine WC_region ?_
      refine WL_val rfl rfl rfl (R_fieldAddr rfl fa41_1 rfl) ?_
      refine WL_val rfl rfl rfl (R_load rfl sc3 rfl (mmZ) rfl) ?_
      refine WL_val rfl rfl rfl (R_conv (r := (IntKind.u64.wrap a.n)) rfl Try.underlying3 Try.underlying42 rfl (rfl)) ?_
      refine WL_val rfl rfl rfl (R_remR (r := (q : Int)) rfl rfl rfl (by omega) (hq)) ?_
      refine WL_val rfl rfl rfl (R_conv (r := (q : Int)) rfl Try.underlying42 Try.underlying3 rfl (i64_in9 (by omega))) ?_
      refine WL_val rfl rfl rfl (R_assign rfl rfl) ?_
      refine WL_nil ?_
      refine WQ_code ?_
      refine WC_cutF (G := HoC) [8, 16, 17, 18, 19, 69, 70, 71, 72, 73, 74, 75, 76, 77, 78, 79, 80, 81, 82, 83, 84, 85, 86, 87, 88, 89, 90, 91, 92, 93, 94, 95, 96, 97, 98, 99, 100, 101, 102, 103, 104, 105, 106, 107, 108, 109, 110, 111, 112, 113, 114, 115, 116, 117, 118, 119, 120, 121, 122, 123, 124, 125, 126, 127, 128, 129, 130, 131, 132, 133, 134, 135, 136, 137, 138, 139, 140, 141, 142, 143, 144] (fun v => CutI y.s v.s v.h (y.t + a.now) ∧ PIs v.m v.s ∧ v.m.p = y.m.p) (fun v => []) (fun v => poH v.m v.s ++ [⟨some bh, cl (hdV v.h) 39⟩]) ((poH y.m y.s ++ [⟨some bh, cl (hdV (hOf y.s.C)) 39⟩])) (pqZ) ?_ ?_
      · refine WC_seq ?_
        refine WC_region ?_
        refine WL_val rfl rfl rfl (R_fieldAddr rfl fa41_0 rfl) ?_
        refine WL_val rfl rfl rfl (R_load rfl sc3 rfl (mmZ) rfl) ?_
        refine WL_nil ?_
        refine WQ_code ?_
        refine WC_block ?_
        refine WC_seq ?_
        refine WC_region ?_
        refine WL_val rfl rfl rfl (R_eql rfl rfl rfl) ?_
        refine WL_val rfl rfl rfl (R_assign rfl rfl) ?_
        refine WL_nil ?_
        refine WQ_code ?_
        refine WC_dec rfl (fun c3 => ?_) (fun c3 => ?_)
        · refine WC_seq ?_
          refine WC_region ?_
          refine WL_val rfl rfl rfl (R_move rfl rfl) ?_
          refine WL_val rfl rfl rfl (R_move rfl rfl) ?_
          refine WL_val rfl rfl rfl (R_move rfl rfl) ?_
          refine WL_val rfl rfl rfl (R_move rfl rfl) ?_
          refine WL_val rfl rfl rfl (R_addR (r := ((y.t + a.now + 1 : Nat) : Int)) rfl rfl rfl (by rw [w64 ⟨by omega, by omega⟩]; omega)) ?_
          refine WL_val rfl rfl rfl (R_fieldAddr rfl fa41_3 rfl) ?_
          refine WL_val rfl rfl rfl (R_load rfl sc28 rfl (mmZ) rfl) ?_
          refine WL_val rfl rfl rfl (R_remR (r := ((a.dl % 1000 : Nat) : Int)) rfl rfl rfl (by omega) (remN)) ?_
          refine WL_val rfl rfl rfl (R_addR (r := ((y.t + a.now + 1 + a.dl % 1000 : Nat) : Int)) rfl rfl rfl (by rw [w64 ⟨by omega, by omega⟩]; omega)) ?_
          refine WL_do rfl rfl rfl (D_call (pget_ok gy (by rw [hyE]; exact Nat.zero_le _) (by omega) (q : Int) (y.t + a.now) ((y.t + a.now) + 1 + a.dl % 1000) (by omega)) rfl rfl rfl rfl (pqZ)) ?_
          rintro _ _ ⟨_, ⟨m1, rfl, rfl, hp1, h1⟩, rfl⟩
          rw [← hp1]
          refine WL_val rfl rfl rfl (R_move rfl rfl) ?_
          refine WL_val rfl rfl rfl (R_extract rfl rfl rfl) ?_
          refine WL_val rfl rfl rfl (R_extract rfl rfl rfl) ?_
          refine WL_do rfl rfl rfl (D_alloc rfl zv44) ?_
          rintro _ _ ⟨b2, rfl, rfl⟩
          refine WL_do0 rfl rfl (D_store (vs := [_, _, _]) rfl Try.sizeOf44 rfl rfl rfl rfl rfl (plZ) (by exact Nat.le_of_ble_eq_true rfl)) ?_
          rintro _ _ rfl
          refine WL_val rfl rfl rfl (R_assign rfl rfl) ?_
          refine WL_nil ?_
          refine WQ_code ?_
          refine WC_seq ?_
          refine WC_region ?_
          refine WL_val rfl rfl rfl (R_move rfl rfl) ?_
          refine WL_val rfl rfl rfl (R_eql rfl rfl rfl) ?_
          refine WL_val rfl rfl rfl (R_move rfl rfl) ?_
          refine WL_splitD (s := 92) rfl (fun c4 => ?_) (fun c4 => ?_)
          · have he : getE_ y.s (q : Int) (y.t + a.now) ((y.t + a.now) + 1 + a.dl % 1000) = 0 := c4
            have hgv := (get_ev hph he).2.2.2.2.2.2.2
            refine WL_val rfl rfl rfl (R_loadA (vs := [_, _, _]) rfl ag44 rfl (mmZ) rfl (atZ)) ?_
            refine WL_do rfl rfl rfl (D_call (hold_ok bh hgv) rfl rfl rfl rfl (pqZ)) ?_
            rintro _ _ ⟨_, ⟨rfl, rfl⟩, rfl⟩
            refine WL_val rfl rfl rfl (R_not rfl rfl) ?_
            refine WL_val rfl rfl rfl (R_pickT rfl rfl rfl) ?_
            refine WL_nil ?_
            refine WQ_code ?_
            refine WC_F rfl ?_
            refine WC_skip ?_
            have hcI : CutI y.s (y.s.getS (q : Int) (y.t + a.now) ((y.t + a.now) + 1 + a.dl % 1000)) (hOf (y.s.getS (q : Int) (y.t + a.now) ((y.t + a.now) + 1 + a.dl % 1000)).C) (y.t + a.now) := get_cut hph hyE he
            refine WQ_cutF (⟨m1, y.s.getS (q : Int) (y.t + a.now) ((y.t + a.now) + 1 + a.dl % 1000), hOf (y.s.getS (q : Int) (y.t + a.now) ((y.t + a.now) + 1 + a.dl % 1000)).C⟩) (⟨hcI, h1, by first | rfl | exact hp1⟩) leZ (psZ) (pqZ)
          · have he : getE_ y.s (q : Int) (y.t + a.now) ((y.t + a.now) + 1 + a.dl % 1000) ≠ 0 := c4
            refine WL_skip rfl rfl rfl ?_
            refine WL_skip rfl rfl rfl ?_
            refine WL_skip rfl rfl rfl ?_
            refine WL_val rfl rfl rfl (R_pickF rfl rfl rfl) ?_
            refine WL_nil ?_
            refine WQ_code ?_
            refine WC_F rfl ?_
            refine WC_skip ?_
            have hcI : CutI y.s (y.s.getS (q : Int) (y.t + a.now) ((y.t + a.now) + 1 + a.dl % 1000)) (hOf y.s.C) (y.t + a.now) := by rw [(get_err he).1]; exact cut_refl hph hyE (by omega)
            refine WQ_cutF (⟨m1, y.s.getS (q : Int) (y.t + a.now) ((y.t + a.now) + 1 + a.dl % 1000), hOf y.s.C⟩) (⟨hcI, h1, by first | rfl | exact hp1⟩) leZ (psZ) (pqZ)
        · refine WC_seq ?_
          refine WC_region ?_
          refine WL_val rfl rfl rfl (R_eql rfl rfl rfl) ?_
          refine WL_val rfl rfl rfl (R_assign rfl rfl) ?_
          refine WL_nil ?_
          refine WQ_code ?_
          refine WC_dec rfl (fun c5 => ?_) (fun c5 => ?_)
          · refine WC_seq ?_
            refine WC_region ?_
            refine WL_val rfl rfl rfl (R_move rfl rfl) ?_
            refine WL_val rfl rfl rfl (R_move rfl rfl) ?_
            refine WL_val rfl rfl rfl (R_fieldAddr rfl fa41_4 rfl) ?_
            refine WL_val rfl rfl rfl (R_load rfl sc4 rfl (mmZ) rfl) ?_
            refine WL_val rfl rfl rfl (R_move rfl rfl) ?_
            refine WL_do rfl rfl rfl (D_call (pdialed_ok gy (by rw [hyE]; exact Nat.zero_le _) (q : Int) a.good (y.t + a.now) (by omega)) rfl rfl rfl rfl (pqZ)) ?_
            rintro _ _ ⟨_, ⟨m1, rfl, rfl, hp1, h1⟩, rfl⟩
            rw [← hp1]
            refine WL_val rfl rfl rfl (R_assign rfl rfl) ?_
            refine WL_nil ?_
            refine WQ_code ?_
            refine WC_seq ?_
            refine WC_region ?_
            refine WL_val rfl rfl rfl (R_move rfl rfl) ?_
            refine WL_val rfl rfl rfl (R_eql rfl rfl rfl) ?_
            refine WL_val rfl rfl rfl (R_move rfl rfl) ?_
            refine WL_val rfl rfl rfl (R_indexAddrAN rfl Try.underlying39 Try.sizeOf3 rfl rfl (by omega)) ?_
            refine WL_val rfl rfl rfl (R_load (v := .int .i64 (hOf y.s.C q)) rfl sc3 rfl (mmZ) (hd_get _ hq64)) ?_
            refine WL_val rfl rfl rfl (R_eql rfl rfl rfl) ?_
            refine WL_val rfl rfl rfl (R_boolNe rfl Try.underlying4 rfl rfl) ?_
            refine WL_set (s := 111) (v := .bool false) rfl (by exact congrArg Value.bool (bne_eq_false_iff_eq.2 (decide_eq_decide.2 (hOf_in hph.len hq64 (.inl rfl) (show y.s.now ≤ y.t + a.now by omega) (by omega))))) ?_
            refine WL_nil ?_
            refine WQ_code ?_
            refine WC_F rfl ?_
            refine WC_seq ?_
            refine WC_region ?_
            refine WL_val rfl rfl rfl (R_move rfl rfl) ?_
            refine WL_val rfl rfl rfl (R_eql rfl rfl rfl) ?_
            refine WL_nil ?_
            refine WQ_code ?_
            refine WC_dec rfl (fun c6 => ?_) (fun c6 => ?_)
            · have he := c6
              refine WC_seq ?_
              refine WC_region ?_
              refine WL_val rfl rfl rfl (R_move rfl rfl) ?_
              refine WL_val rfl rfl rfl (R_indexAddrAN rfl Try.underlying39 Try.sizeOf3 rfl rfl (by omega)) ?_
              refine WL_do0 rfl rfl (D_store (vs := [_]) rfl Try.sizeOf3 rfl rfl rfl rfl rfl (plZ) (by exact hd_room _ hq64)) ?_
              rintro _ _ rfl
              rw [hd_put _ hq64]
              refine WL_nil ?_
              refine WQ_code ?_
              refine WC_seq ?_
              refine WC_region ?_
              refine WL_val rfl rfl rfl (R_fieldAddr rfl fa41_4 rfl) ?_
              refine WL_val rfl rfl rfl (R_load rfl sc4 rfl (mmZ) rfl) ?_
              refine WL_nil ?_
              refine WQ_code ?_
              refine WC_if rfl (fun c7 => ?_) (fun c7 => ?_)
              · have hgd : a.good = true := c7
                refine WC_region ?_
                refine WL_val rfl rfl rfl (R_move rfl rfl) ?_
                refine WL_val rfl rfl rfl (R_indexAddrAN rfl Try.underlying39 Try.sizeOf3 rfl rfl (by omega)) ?_
                refine WL_do0 rfl rfl (D_store (vs := [_]) rfl Try.sizeOf3 rfl rfl rfl rfl rfl (plZ) (by exact hd_room _ hq64)) ?_
                rintro _ _ rfl
                rw [hd_put _ hq64]
                refine WL_nil ?_
                obtain ⟨k9, hk9, _, _, h8⟩ := dialed_R hph he a.good
                have h7 : k9 = q := by omega
                rw [h7, hgd] at h8
                have hcI : CutI y.s (y.s.dialed (q : Int) a.good (y.t + a.now)) (updH (updH (hOf y.s.C) q 0) q 2) (y.t + a.now) := by rw [hgd, updH_twice]; exact h8.cut hyE (by omega)
                refine WQ_cutF (⟨m1, y.s.dialed (q : Int) a.good (y.t + a.now), updH (updH (hOf y.s.C) q 0) q 2⟩) (⟨hcI, h1, by first | rfl | exact hp1⟩) leZ (psZ) (pqZ)
              · have hgd : a.good = false := c7
                refine WC_skip ?_
                obtain ⟨k9, hk9, _, _, h8⟩ := dialed_R hph he a.good
                have h7 : k9 = q := by omega
                rw [h7, hgd] at h8
                have hcI : CutI y.s (y.s.dialed (q : Int) a.good (y.t + a.now)) (updH (hOf y.s.C) q 0) (y.t + a.now) := by rw [hgd]; exact h8.cut hyE (by omega)
                refine WQ_cutF (⟨m1, y.s.dialed (q : Int) a.good (y.t + a.now), updH (hOf y.s.C) q 0⟩) (⟨hcI, h1, by first | rfl | exact hp1⟩) leZ (psZ) (pqZ)
            · have he := c6
              refine WC_skip ?_
              have hcI : CutI y.s (y.s.dialed (q : Int) a.good (y.t + a.now)) (hOf y.s.C) (y.t + a.now) := by rw [dialed_no he]; exact cut_refl hph hyE (by omega)
              refine WQ_cutF (⟨m1, y.s.dialed (q : Int) a.good (y.t + a.now), hOf y.s.C⟩) (⟨hcI, h1, by first | rfl | exact hp1⟩) leZ (psZ) (pqZ)
          · refine WC_seq ?_
            refine WC_region ?_
            refine WL_val rfl rfl rfl (R_eql rfl rfl rfl) ?_
            refine WL_val rfl rfl rfl (R_assign rfl rfl) ?_
            refine WL_nil ?_
            refine WQ_code ?_
            refine WC_dec rfl (fun c8 => ?_) (fun c8 => ?_)
            · refine WC_seq ?_
              refine WC_region ?_
              refine WL_val rfl rfl rfl (R_move rfl rfl) ?_
              refine WL_val rfl rfl rfl (R_move rfl rfl) ?_
              refine WL_val rfl rfl rfl (R_fieldAddr rfl fa41_4 rfl) ?_
              refine WL_val rfl rfl rfl (R_load rfl sc4 rfl (mmZ) rfl) ?_
              refine WL_val rfl rfl rfl (R_move rfl rfl) ?_
              refine WL_do rfl rfl rfl (D_call (pput_ok gy (by rw [hyE]; exact Nat.zero_le _) (q : Int) a.good (y.t + a.now) (by omega)) rfl rfl rfl rfl (pqZ)) ?_
              rintro _ _ ⟨_, ⟨m1, rfl, rfl, hp1, h1⟩, rfl⟩
              rw [← hp1]
              refine WL_val rfl rfl rfl (R_assign rfl rfl) ?_
              refine WL_nil ?_
              refine WQ_code ?_
              refine WC_seq ?_
              refine WC_region ?_
              refine WL_val rfl rfl rfl (R_move rfl rfl) ?_
              refine WL_val rfl rfl rfl (R_eql rfl rfl rfl) ?_
              refine WL_val rfl rfl rfl (R_move rfl rfl) ?_
              refine WL_val rfl rfl rfl (R_indexAddrAN rfl Try.underlying39 Try.sizeOf3 rfl rfl (by omega)) ?_
              refine WL_val rfl rfl rfl (R_load (v := .int .i64 (hOf y.s.C q)) rfl sc3 rfl (mmZ) (hd_get _ hq64)) ?_
              refine WL_val rfl rfl rfl (R_eql rfl rfl rfl) ?_
              refine WL_val rfl rfl rfl (R_boolNe rfl Try.underlying4 rfl rfl) ?_
              refine WL_set (s := 134) (v := .bool false) rfl (by exact congrArg Value.bool (bne_eq_false_iff_eq.2 (decide_eq_decide.2 (hOf_in hph.len hq64 (.inr rfl) (show y.s.now ≤ y.t + a.now by omega) (by omega))))) ?_
              refine WL_nil ?_
              refine WQ_code ?_
              refine WC_F rfl ?_
              refine WC_seq ?_
              refine WC_region ?_
              refine WL_val rfl rfl rfl (R_move rfl rfl) ?_
              refine WL_val rfl rfl rfl (R_eql rfl rfl rfl) ?_
              refine WL_nil ?_
              refine WQ_code ?_
              refine WC_dec rfl (fun c9 => ?_) (fun c9 => ?_)
              · have he := c9
                refine WC_region ?_
                refine WL_val rfl rfl rfl (R_move rfl rfl) ?_
                refine WL_val rfl rfl rfl (R_indexAddrAN rfl Try.underlying39 Try.sizeOf3 rfl rfl (by omega)) ?_
                refine WL_do0 rfl rfl (D_store (vs := [_]) rfl Try.sizeOf3 rfl rfl rfl rfl rfl (plZ) (by exact hd_room _ hq64)) ?_
                rintro _ _ rfl
                rw [hd_put _ hq64]
                refine WL_nil ?_
                obtain ⟨k9, hk9, _, _, h8⟩ := put_R hph he a.good
                have h7 : k9 = q := by omega
                rw [h7] at h8
                have hcI : CutI y.s (y.s.put (q : Int) a.good (y.t + a.now)) (updH (hOf y.s.C) q 0) (y.t + a.now) := h8.cut hyE (by omega)
                refine WQ_cutF (⟨m1, y.s.put (q : Int) a.good (y.t + a.now), updH (hOf y.s.C) q 0⟩) (⟨hcI, h1, by first | rfl | exact hp1⟩) leZ (psZ) (pqZ)
              · have he := c9
                refine WC_skip ?_
                have hcI : CutI y.s (y.s.put (q : Int) a.good (y.t + a.now)) (hOf y.s.C) (y.t + a.now) := by rw [put_no he]; exact cut_refl hph hyE (by omega)
                refine WQ_cutF (⟨m1, y.s.put (q : Int) a.good (y.t + a.now), hOf y.s.C⟩) (⟨hcI, h1, by first | rfl | exact hp1⟩) leZ (psZ) (pqZ)
            · refine WC_seq ?_
              refine WC_region ?_
              refine WL_val rfl rfl rfl (R_eql rfl rfl rfl) ?_
              refine WL_val rfl rfl rfl (R_assign rfl rfl) ?_
              refine WL_nil ?_
              refine WQ_code ?_
              refine WC_dec rfl (fun c10 => ?_) (fun c10 => ?_)
              · refine WC_region ?_
                refine WL_val rfl rfl rfl (R_move rfl rfl) ?_
                refine WL_val rfl rfl rfl (R_move rfl rfl) ?_
                refine WL_val rfl rfl rfl (R_move rfl rfl) ?_
                refine WL_do rfl rfl rfl (D_call (pcancel_ok gy (by rw [hyE]; exact Nat.zero_le _) (q : Int) (y.t + a.now) (by omega)) rfl rfl rfl rfl (pqZ)) ?_
                rintro _ _ ⟨_, ⟨m1, rfl, rfl, hp1, h1⟩, rfl⟩
                rw [← hp1]
                refine WL_nil ?_
                have hcI : CutI y.s (y.s.cancel (q : Int) (y.t + a.now)) (hOf y.s.C) (y.t + a.now) := cancel_cut hph hyE (by omega) (q : Int) (by omega)
                refine WQ_cutF (⟨m1, y.s.cancel (q : Int) (y.t + a.now), hOf y.s.C⟩) (⟨hcI, h1, by first | rfl | exact hp1⟩) leZ (psZ) (pqZ)
              · refine WC_seq ?_
                refine WC_region ?_
                refine WL_val rfl rfl rfl (R_move rfl rfl) ?_
                refine WL_val rfl rfl rfl (R_move rfl rfl) ?_
                refine WL_do rfl rfl rfl (D_call (padv_ok gy (by rw [hyE]; exact Nat.zero_le _) (y.t + a.now) (by omega) (by rw [cnt_cn]; have h9 := hyw; unfold wt at h9; omega)) rfl rfl rfl rfl (pqZ)) ?_
                rintro _ _ ⟨_, ⟨m1, rfl, rfl, hp1, h1⟩, rfl⟩
                rw [← hp1]
                have hmay : y.s.may true (y.t + a.now) = 0 := may_fine rfl (by omega)
                rw [hmay]
                refine WL_val rfl rfl rfl (R_neq rfl rfl rfl) ?_
                refine WL_set (s := 74) (v := .bool false) rfl (by simp) ?_
                refine WL_nil ?_
                refine WQ_code ?_
                refine WC_F rfl ?_
                refine WC_skip ?_
                have hcI : CutI y.s (y.s.advance (y.t + a.now)) (hOf y.s.C) (y.t + a.now) := (adv_R hph hmay).cut hyE (by omega)
                refine WQ_cutF (⟨m1, y.s.advance (y.t + a.now), hOf y.s.C⟩) (⟨hcI, h1, by first | rfl | exact hp1⟩) leZ (psZ) (pqZ)
      · rintro v ⟨hci, gv, hvp⟩
        rw [← hvp]
        have hcop := hci.op
        have hcmo := hci.most
        rw [hyop] at hcop
        rw [hymo] at hcmo
        refine WC_seq ?_
        refine WC_region ?_
        refine WL_val rfl rfl rfl (R_move rfl rfl) ?_
        refine WL_do rfl rfl rfl (D_call (drain_ok gv bh hci.ev hci.len) rfl rfl rfl rfl (pqZ)) ?_
        rintro _ _ ⟨_, ⟨m2, rfl, rfl, hp2, g2⟩, rfl⟩
        rw [← hp2]
        refine WL_val rfl rfl rfl (R_not rfl rfl) ?_
        refine WL_val rfl rfl rfl (R_move rfl rfl) ?_
        refine WL_val rfl rfl rfl (R_move rfl rfl) ?_
        refine WL_val rfl rfl rfl (R_move rfl rfl) ?_
        refine WL_val rfl rfl rfl (R_move rfl rfl) ?_
        refine WL_do rfl rfl rfl (D_call (fits2_ok g2 hci.dry hcop hcmo) rfl rfl rfl rfl (pqZ)) ?_
        rintro _ _ ⟨_, ⟨rfl, rfl⟩, rfl⟩
        refine WL_val rfl rfl rfl (R_not rfl rfl) ?_
        refine WL_val rfl rfl rfl (R_pickF rfl rfl rfl) ?_
        refine WL_nil ?_
        refine WQ_code ?_
        refine WC_F rfl ?_
        refine WC_skip ?_
        refine WQ_code ?_
        refine WC_region ?_
        refine WL_val rfl rfl rfl (R_move rfl rfl) ?_
        refine WL_val rfl rfl rfl (R_add rfl rfl rfl (by omega)) ?_
        refine WL_val rfl rfl rfl (R_assign rfl rfl) ?_
        refine WL_nil ?_
        refine WQ_nextF (⟨y.k + 1, m2, { v.s with E := [] }, y.t + a.now⟩) (⟨by dsimp only; omega, g2, by first | rfl | exact hp2, hci.dry, rfl, by have h9 := hci.w; (show wt v.s ≤ _); dsimp only; omega, by have h9 := hci.n; dsimp only; omega, hci.now, by dsimp only; omega, hcop, hcmo⟩) (by dsimp only; omega) leZ (psZ) rfl (pqZ)
  · refine WC_exit ?_
    refine WQ_code ?_
    refine WC_seq ?_
    refine WC_seq ?_
    refine WC_region ?_
    refine WL_val rfl rfl rfl (R_assign rfl rfl) ?_
    refine WL_nil ?_
    refine WQ_code ?_
    refine WC_block ?_
    have hQ0 := q_wt y.s
    have hytm : y.t ≠ 18446744073709551615 := by omega
    refine WC_loopF (G := HoE) [8, 20, 21, 22, 155, 156, 157, 158, 159, 160, 161, 162, 163, 164, 165, 166, 167, 168, 169, 170, 171, 172, 173, 174, 175, 176, 177, 178, 179, 180, 181, 182, 183, 184, 185, 186, 187, 188, 189, 190, 191, 192, 193, 194, 195, 196, 197, 198, 199, 200, 201, 202, 203, 204, 205, 206, 207, 208, 209] (fun z => z.k + z.s.Q.length ≤ 40 ∧ PIs z.m z.s ∧ z.m.p = y.m.p ∧ PH z.s ∧ z.s.E = [] ∧ z.s.now ≤ y.t ∧ z.s.op = op ∧ z.s.most = most) (fun z => [(20, .int .i64 (z.k : Int))]) (fun z => poH z.m z.s ++ [⟨some bh, cl (hdV (hOf z.s.C)) 39⟩]) (fun z => 200 - z.k) (⟨0, y.m, y.s⟩) (⟨by dsimp only; omega, gy, rfl, hph, hyE, hyt, hyop, hymo⟩) leZ (pqZ) ?_
    rintro z ⟨hzk, gz, hzp, hzP, hzE, hzt, hzop, hzmo⟩
    rw [← hzp]
    refine WC_seq ?_
    refine WC_seq ?_
    refine WC_region ?_
    refine WL_val rfl rfl rfl (R_move rfl rfl) ?_
    refine WL_val rfl rfl rfl (R_lss rfl rfl rfl) ?_
    refine WL_nil ?_
    refine WQ_code ?_
    refine WC_dT rfl (by omega) ?_
    refine WC_skip ?_
    refine WQ_code ?_
    refine WC_seq ?_
    refine WC_block ?_
    refine WC_seq ?_
    refine WC_seq ?_
    refine WC_region ?_
    refine WL_val rfl rfl rfl (R_assign rfl rfl) ?_
    refine WL_nil ?_
    refine WQ_code ?_
    refine WC_block ?_
    refine WC_loopF (G := HoE) [8, 21, 159, 160, 161, 162, 163, 164, 165, 166, 167, 168, 169, 170, 171, 172, 173, 174, 175, 176, 177, 178, 179, 180, 181, 182, 183, 184, 185, 186, 187, 188, 189] (fun u => u.k ≤ 64 ∧ PIs u.m u.s ∧ u.m.p = z.m.p ∧ PH u.s ∧ u.s.E = [] ∧ u.s.now ≤ y.t ∧ u.s.op = op ∧ u.s.most = most ∧ Prog u.s z.s.Q.length u.k) (fun u => [(21, .int .i64 (u.k : Int))]) (fun u => poH u.m u.s ++ [⟨some bh, cl (hdV (hOf u.s.C)) 39⟩]) (fun u => 64 - u.k) (⟨0, z.m, z.s⟩) (⟨Nat.zero_le _, gz, rfl, hzP, hzE, hzt, hzop, hzmo, .inr ⟨rfl, fun i hi => absurd hi (Nat.not_lt_zero _)⟩⟩) leZ (pqZ) ?_
    rintro u ⟨huk, gu, hup, huP, huE, hun, huop, humo, hprog⟩
    rw [← hup]
    have hule := hprog.le
    refine WC_seq ?_
    refine WC_seq ?_
    refine WC_region ?_
    refine WL_val rfl rfl rfl (R_move rfl rfl) ?_
    refine WL_val rfl rfl rfl (R_lss rfl rfl rfl) ?_
    refine WL_nil ?_
    refine WQ_code ?_
    refine WC_dec rfl (fun c11 => ?_) (fun c11 => ?_)
    · have hn64 : u.k < 64 := by omega
      refine WC_skip ?_
      refine WQ_code ?_
      refine WC_seq ?_
      refine WC_block ?_
      refine WC_seq ?_
      refine WC_seq ?_
      refine WC_region ?_
      refine WL_val rfl rfl rfl (R_move rfl rfl) ?_
      refine WL_val rfl rfl rfl (R_indexAddrAN rfl Try.underlying39 Try.sizeOf3 rfl rfl (by omega)) ?_
      refine WL_val rfl rfl rfl (R_load (v := .int .i64 (hOf u.s.C u.k)) rfl sc3 rfl (mmZ) (hd_get _ hn64)) ?_
      refine WL_val rfl rfl rfl (R_eql rfl rfl rfl) ?_
      refine WL_nil ?_
      refine WQ_code ?_
      refine WC_dec rfl (fun c12 => ?_) (fun c12 => ?_)
      · have hi1 : hOf u.s.C u.k = 1 := c12
        refine WC_seq ?_
        refine WC_seq ?_
        refine WC_region ?_
        refine WL_val rfl rfl rfl (R_move rfl rfl) ?_
        refine WL_val rfl rfl rfl (R_move rfl rfl) ?_
        refine WL_val rfl rfl rfl (R_move rfl rfl) ?_
        have he1 := (hOf_in huP.len hn64 (.inl rfl) hun hytm).2 hi1
        refine WL_do rfl rfl rfl (D_call (pdialed_ok gu (by rw [huE]; exact Nat.zero_le _) (u.k : Int) true y.t (by omega)) rfl rfl rfl rfl (pqZ)) ?_
        rintro _ _ ⟨_, ⟨m1, rfl, rfl, hp1, h1⟩, rfl⟩
        rw [← hp1, he1, dialed_made he1]
        rw [dialed_made he1] at h1
        refine WL_val rfl rfl rfl (R_neq rfl rfl rfl) ?_
        refine WL_nil ?_
        refine WQ_code ?_
        refine WC_dF rfl (by simp) ?_
        refine WC_skip ?_
        refine WQ_code ?_
        refine WC_region ?_
        refine WL_val rfl rfl rfl (R_move rfl rfl) ?_
        refine WL_val rfl rfl rfl (R_indexAddrAN rfl Try.underlying39 Try.sizeOf3 rfl rfl (by omega)) ?_
        refine WL_do0 rfl rfl (D_store (vs := [_]) rfl Try.sizeOf3 rfl rfl rfl rfl rfl (plZ) (by exact hd_room _ hn64)) ?_
        rintro _ _ rfl
        rw [hd_put _ hn64]
        refine WL_nil ?_
        refine WQ_code ?_
        refine WC_seq ?_
        refine WC_region ?_
        refine WL_val rfl rfl rfl (R_move rfl rfl) ?_
        refine WL_val rfl rfl rfl (R_indexAddrAN rfl Try.underlying39 Try.sizeOf3 rfl rfl (by omega)) ?_
        refine WL_val rfl rfl rfl (R_load (v := .int .i64 (updH (hOf u.s.C) u.k 2 u.k)) rfl sc3 rfl (mmZ) (hd_get _ hn64)) ?_
        refine WL_val rfl rfl rfl (R_eql rfl rfl rfl) ?_
        refine WL_nil ?_
        refine WQ_code ?_
        refine WC_dT rfl (by rw [updH_at]) ?_
        refine WC_seq ?_
        refine WC_region ?_
        refine WL_val rfl rfl rfl (R_move rfl rfl) ?_
        refine WL_val rfl rfl rfl (R_indexAddrAN rfl Try.underlying39 Try.sizeOf3 rfl rfl (by omega)) ?_
        refine WL_do0 rfl rfl (D_store (vs := [_]) rfl Try.sizeOf3 rfl rfl rfl rfl rfl (plZ) (by exact hd_room _ hn64)) ?_
        rintro _ _ rfl
        rw [hd_put _ hn64]
        rw [updH_twice]
        refine WL_nil ?_
        refine WQ_code ?_
        refine WC_seq ?_
        refine WC_region ?_
        refine WL_val rfl rfl rfl (R_move rfl rfl) ?_
        refine WL_val rfl rfl rfl (R_move rfl rfl) ?_
        refine WL_val rfl rfl rfl (R_move rfl rfl) ?_
        have hDP : PH ((u.s.at_ y.t).set u.k ⟨2, 0, 0⟩) := by obtain ⟨k9, x9, e9, _, hx9, hs9, _, _⟩ := inE_zero he1; obtain rfl : u.k = k9 := (by omega); exact (dialed_made_R huP hx9 hs9 y.t).1
        have hDh : hOf ((u.s.at_ y.t).set u.k ⟨2, 0, 0⟩).C = updH (hOf u.s.C) u.k 2 := hOf_set (C := u.s.C) (by rw [huP.len]; exact hn64) ⟨2, 0, 0⟩
        have he2 : ((u.s.at_ y.t).set u.k ⟨2, 0, 0⟩).inE (u.k : Int) 2 y.t = 0 := (hOf_in hDP.len hn64 (.inr rfl) (Nat.le_refl _) hytm).2 (by rw [hDh, updH_at])
        have hpc : CutI ((u.s.at_ y.t).set u.k ⟨2, 0, 0⟩) (((u.s.at_ y.t).set u.k ⟨2, 0, 0⟩).put (u.k : Int) true y.t) (updH (hOf u.s.C) u.k 0) y.t := by obtain ⟨k9, hk9, _, _, h8⟩ := put_R hDP he2 true; have h7 : k9 = u.k := (by omega); rw [h7, hDh, updH_twice] at h8; exact h8.cut huE (show u.s.Q.length ≤ 100 by omega)
        have hpg : Prog { ((u.s.at_ y.t).set u.k ⟨2, 0, 0⟩).put (u.k : Int) true y.t with E := [] } z.s.Q.length (u.k + 1) := hprog.put hDP rfl (fun i hi => by rw [hDh, updH_ne _ _ (by omega)]) he2
        refine WL_do rfl rfl rfl (D_call (pput_ok h1 (by first | (rw [huE]; exact Nat.zero_le _) | (show u.s.E.length ≤ _; rw [huE]; exact Nat.zero_le _)) (u.k : Int) true y.t (by omega)) rfl rfl rfl rfl (pqZ)) ?_
        rintro _ _ ⟨_, ⟨m3, rfl, rfl, hp3, h3⟩, rfl⟩
        rw [← hp3, he2]
        refine WL_val rfl rfl rfl (R_neq rfl rfl rfl) ?_
        refine WL_val rfl rfl rfl (R_move rfl rfl) ?_
        refine WL_set (s := 185) (v := .bool false) rfl (by simp) ?_
        refine WL_val rfl rfl rfl (R_move rfl rfl) ?_
        refine WL_do rfl rfl rfl (D_call (drain_ok h3 bh hpc.ev hpc.len) rfl rfl rfl rfl (pqZ)) ?_
        rintro _ _ ⟨_, ⟨m2, rfl, rfl, hp2, g2⟩, rfl⟩
        rw [← hp2]
        refine WL_val rfl rfl rfl (R_not rfl rfl) ?_
        refine WL_val rfl rfl rfl (R_pickF rfl rfl rfl) ?_
        refine WL_nil ?_
        refine WQ_code ?_
        refine WC_F rfl ?_
        refine WC_skip ?_
        refine WQ_code ?_
        refine WC_region ?_
        refine WL_val rfl rfl rfl (R_move rfl rfl) ?_
        refine WL_val rfl rfl rfl (R_add rfl rfl rfl (by omega)) ?_
        refine WL_val rfl rfl rfl (R_assign rfl rfl) ?_
        refine WL_nil ?_
        refine WQ_nextF (⟨u.k + 1, m2, { ((u.s.at_ y.t).set u.k ⟨2, 0, 0⟩).put (u.k : Int) true y.t with E := [] }⟩) (⟨by dsimp only; omega, g2, by first | rfl | exact hp2, hpc.dry, rfl, hpc.now, hpc.op.trans huop, hpc.most.trans humo, hpg⟩) (by dsimp only; omega) leZ (psZ) rfl (pqZ)
      · have hi1 : hOf u.s.C u.k ≠ 1 := c12
        refine WC_skip ?_
        refine WQ_code ?_
        refine WC_seq ?_
        refine WC_region ?_
        refine WL_val rfl rfl rfl (R_move rfl rfl) ?_
        refine WL_val rfl rfl rfl (R_indexAddrAN rfl Try.underlying39 Try.sizeOf3 rfl rfl (by omega)) ?_
        refine WL_val rfl rfl rfl (R_load (v := .int .i64 (hOf u.s.C u.k)) rfl sc3 rfl (mmZ) (hd_get _ hn64)) ?_
        refine WL_val rfl rfl rfl (R_eql rfl rfl rfl) ?_
        refine WL_nil ?_
        refine WQ_code ?_
        refine WC_dec rfl (fun c13 => ?_) (fun c13 => ?_)
        · have hi2 := c13
          refine WC_seq ?_
          refine WC_region ?_
          refine WL_val rfl rfl rfl (R_move rfl rfl) ?_
          refine WL_val rfl rfl rfl (R_indexAddrAN rfl Try.underlying39 Try.sizeOf3 rfl rfl (by omega)) ?_
          refine WL_do0 rfl rfl (D_store (vs := [_]) rfl Try.sizeOf3 rfl rfl rfl rfl rfl (plZ) (by exact hd_room _ hn64)) ?_
          rintro _ _ rfl
          rw [hd_put _ hn64]
          refine WL_nil ?_
          refine WQ_code ?_
          refine WC_seq ?_
          refine WC_region ?_
          refine WL_val rfl rfl rfl (R_move rfl rfl) ?_
          refine WL_val rfl rfl rfl (R_move rfl rfl) ?_
          refine WL_val rfl rfl rfl (R_move rfl rfl) ?_
          have he2 : u.s.inE (u.k : Int) 2 y.t = 0 := (hOf_in huP.len hn64 (.inr rfl) hun hytm).2 hi2
          have hpc : CutI u.s (u.s.put (u.k : Int) true y.t) (updH (hOf u.s.C) u.k 0) y.t := by obtain ⟨k9, hk9, _, _, h8⟩ := put_R huP he2 true; have h7 : k9 = u.k := (by omega); rw [h7] at h8; exact h8.cut huE (show u.s.Q.length ≤ 100 by omega)
          have hpg : Prog { u.s.put (u.k : Int) true y.t with E := [] } z.s.Q.length (u.k + 1) := hprog.put huP rfl (fun i hi => rfl) he2
          refine WL_do rfl rfl rfl (D_call (pput_ok gu (by first | (rw [huE]; exact Nat.zero_le _) | (show u.s.E.length ≤ _; rw [huE]; exact Nat.zero_le _)) (u.k : Int) true y.t (by omega)) rfl rfl rfl rfl (pqZ)) ?_
          rintro _ _ ⟨_, ⟨m3, rfl, rfl, hp3, h3⟩, rfl⟩
          rw [← hp3, he2]
          refine WL_val rfl rfl rfl (R_neq rfl rfl rfl) ?_
          refine WL_val rfl rfl rfl (R_move rfl rfl) ?_
          refine WL_set (s := 185) (v := .bool false) rfl (by simp) ?_
          refine WL_val rfl rfl rfl (R_move rfl rfl) ?_
          refine WL_do rfl rfl rfl (D_call (drain_ok h3 bh hpc.ev hpc.len) rfl rfl rfl rfl (pqZ)) ?_
          rintro _ _ ⟨_, ⟨m2, rfl, rfl, hp2, g2⟩, rfl⟩
          rw [← hp2]
          refine WL_val rfl rfl rfl (R_not rfl rfl) ?_
          refine WL_val rfl rfl rfl (R_pickF rfl rfl rfl) ?_
          refine WL_nil ?_
          refine WQ_code ?_
          refine WC_F rfl ?_
          refine WC_skip ?_
          refine WQ_code ?_
          refine WC_region ?_
          refine WL_val rfl rfl rfl (R_move rfl rfl) ?_
          refine WL_val rfl rfl rfl (R_add rfl rfl rfl (by omega)) ?_
          refine WL_val rfl rfl rfl (R_assign rfl rfl) ?_
          refine WL_nil ?_
          refine WQ_nextF (⟨u.k + 1, m2, { u.s.put (u.k : Int) true y.t with E := [] }⟩) (⟨by dsimp only; omega, g2, by first | rfl | exact hp2, hpc.dry, rfl, hpc.now, hpc.op.trans huop, hpc.most.trans humo, hpg⟩) (by dsimp only; omega) leZ (psZ) rfl (pqZ)
        · have hi2 := c13
          refine WC_skip ?_
          refine WQ_code ?_
          refine WC_region ?_
          refine WL_val rfl rfl rfl (R_move rfl rfl) ?_
          refine WL_val rfl rfl rfl (R_add rfl rfl rfl (by omega)) ?_
          refine WL_val rfl rfl rfl (R_assign rfl rfl) ?_
          refine WL_nil ?_
          refine WQ_nextF (⟨u.k + 1, u.m, u.s⟩) (⟨by dsimp only; omega, gu, by first | rfl | exact hup, huP, huE, hun, huop, humo, hprog.skip (by have := hOf_le huP u.k; omega)⟩) (by dsimp only; omega) leZ (psZ) rfl (pqZ)
    · have hn64 : u.k = 64 := by omega
      refine WC_exit ?_
      refine WQ_code ?_
      refine WC_seq ?_
      refine WC_region ?_
      refine WL_val rfl rfl rfl (R_move rfl rfl) ?_
      have huw : u.s.Q.length = 0 ∨ (cn 3 u.s.C = 0 ∧ cn 1 u.s.C + cn 2 u.s.C + cn 3 u.s.C = u.s.op) := by rcases huP.wait with e | e; exact .inl (by rw [e]; rfl); exact .inr e
      have huu := huP.used
      have huo := huP.op
      have hd1 := cnt_cn u.s 1
      have hd2 := cnt_cn u.s 2
      refine WL_do rfl rfl rfl (D_call (pcounts_ok gu) rfl rfl rfl rfl (pqZ)) ?_
      rintro _ _ ⟨_, ⟨rfl, rfl⟩, rfl⟩
      refine WL_do rfl rfl rfl (D_alloc rfl zv33) ?_
      rintro _ _ ⟨b3, rfl, rfl⟩
      refine WL_do0 rfl rfl (D_store (vs := [_, _, _, _]) rfl Try.sizeOf33 rfl rfl rfl rfl rfl (plZ) (by exact Nat.le_of_ble_eq_true rfl)) ?_
      rintro _ _ rfl
      refine WL_nil ?_
      refine WQ_code ?_
      refine WC_seq ?_
      refine WC_region ?_
      refine WL_val rfl rfl rfl (R_fieldAddr rfl fa33_0 rfl) ?_
      refine WL_val rfl rfl rfl (R_load rfl sc3 rfl (mmZ) rfl) ?_
      refine WL_val rfl rfl rfl (R_fieldAddr rfl fa33_1 rfl) ?_
      refine WL_val rfl rfl rfl (R_load rfl sc3 rfl (mmZ) rfl) ?_
      refine WL_val rfl rfl rfl (R_add rfl rfl rfl (by omega)) ?_
      refine WL_val rfl rfl rfl (R_eql rfl rfl rfl) ?_
      refine WL_nil ?_
      refine WQ_code ?_
      refine WC_dec rfl (fun c14 => ?_) (fun c14 => ?_)
      · have hz0 := c14
        refine WC_seq ?_
        refine WC_region ?_
        refine WL_val rfl rfl rfl (R_fieldAddr rfl fa33_3 rfl) ?_
        refine WL_val rfl rfl rfl (R_load rfl sc3 rfl (mmZ) rfl) ?_
        refine WL_val rfl rfl rfl (R_eql rfl rfl rfl) ?_
        refine WL_val rfl rfl rfl (R_move rfl rfl) ?_
        refine WL_set (s := 201) (v := .bool true) rfl (by exact congrArg Value.bool (decide_eq_true (by omega))) ?_
        refine WL_val rfl rfl rfl (R_move rfl rfl) ?_
        refine WL_val rfl rfl rfl (R_move rfl rfl) ?_
        refine WL_val rfl rfl rfl (R_move rfl rfl) ?_
        refine WL_do rfl rfl rfl (D_call (fits2_ok gu huP huop humo) rfl rfl rfl rfl (pqZ)) ?_
        rintro _ _ ⟨_, ⟨rfl, rfl⟩, rfl⟩
        refine WL_val rfl rfl rfl (R_pickT rfl rfl rfl) ?_
        refine WL_val rfl rfl rfl (R_move rfl rfl) ?_
        refine WL_do rfl rfl rfl (D_call (known_ok) rfl rfl rfl rfl (pqZ)) ?_
        rintro _ _ ⟨_, ⟨rfl, rfl⟩, rfl⟩
        refine WL_val rfl rfl rfl (R_pickT rfl rfl rfl) ?_
        refine WL_val rfl rfl rfl (R_assign rfl rfl) ?_
        refine WL_nil ?_
        refine WQ_code ?_
        refine WC_ret ?_
        refine WQ_ret rfl rfl (.cons (.tmp rfl) .nil) rfl (by
            exact ⟨rfl, rfl⟩) (pqZ)
      · have hz0 := c14
        have hQlt : u.s.Q.length < z.s.Q.length := by rcases hprog with e | ⟨_, e⟩; exact e; exfalso; have h9 := none_cn huP (fun i hi => e i (by omega)); omega
        refine WC_skip ?_
        refine WQ_code ?_
        refine WC_region ?_
        refine WL_val rfl rfl rfl (R_move rfl rfl) ?_
        refine WL_val rfl rfl rfl (R_add rfl rfl rfl (by omega)) ?_
        refine WL_val rfl rfl rfl (R_assign rfl rfl) ?_
        refine WL_nil ?_
        refine WQ_nextF (⟨z.k + 1, u.m, u.s⟩) (⟨by dsimp only; omega, gu, by first | rfl | exact hup, huP, huE, hun, huop, humo⟩) (by dsimp only; omega) leZ (psZ) rfl (pqZ)

end Go.Proofs.Yteofigbgdbpjgaa
