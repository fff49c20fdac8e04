/-
  Chapter 09 (park), part Hold: contracts of functions that the laws call, each for the heap it names.
-/
import Derived.Test.YtljmeemgjbcgeaaRows
import Derived.Test.YtljmeemgjbcgeaaZSLQueue
import Derived.Test.YtljmeemgjbcgeaaTab
import Derived.Test.YtljmeemgjbcgeaaHoldL
import Derived.Test.YtljmeemgjbcgeaaPlays
import Derived.Test.YtljmeemgjbcgeaaZSLArg
set_option linter.unusedVariables false
set_option maxRecDepth 20000
set_option maxHeartbeats 16000000
namespace Go.Proofs.Ytljmeemgjbcgeaa


theorem holds_bad (m : Int) (oa : Option Addr) (n c : Nat) (one two : Sp) (hb : (n : Int) ≤ 9223372036854775807) (h : m < 1 ∨ 64 < m ∨ 80 < n ∨ ¬ vldS one ∨ ¬ vldS two) : Spec Try.prog 4 [.int .i64 m, .slice oa n c, ekS one, ekS two] [] (fun r H' => r = .bool true ∧ H' = []) := by
  refine Spec.of (E := [(0, .int .i64 m), (1, .slice oa n c), (2, ekS one), (3, ekS two)]) Try.func4 rfl (by kernel_rfl) Try.ntmps4 rfl rfl (fun w => ?_)
  refine WC_seq ?_
  refine WC_region ?_
  refine WL_do rfl rfl rfl (D_box (cs := [_, _]) rfl rfl rfl) ?_
  rintro _ _ ⟨b1, rfl, rfl⟩
  refine WL_do rfl rfl rfl (D_box (cs := [_, _]) rfl rfl rfl) ?_
  rintro _ _ ⟨b2, rfl, rfl⟩
  refine WL_val rfl rfl rfl (R_assign rfl rfl) ?_
  refine WL_nil ?_
  refine WQ_code ?_
  refine WC_seq ?_
  refine WC_seq ?_
  refine WC_region ?_
  refine WL_val rfl rfl rfl (R_move rfl rfl) ?_
  refine WL_val rfl rfl rfl (R_len rfl Try.underlying46 rfl) ?_
  refine WL_val rfl rfl rfl (R_gtr rfl rfl rfl) ?_
  refine WL_val rfl rfl rfl (R_move rfl rfl) ?_
  refine WL_splitD (s := 33) rfl (fun c1 => ?_) (fun c1 => ?_)
  · refine WL_skip rfl rfl rfl ?_
    refine WL_skip rfl rfl rfl ?_
    refine WL_val rfl rfl rfl (R_pickT rfl rfl rfl) ?_
    refine WL_val rfl rfl rfl (R_move rfl rfl) ?_
    refine WL_skip rfl rfl rfl ?_
    refine WL_skip rfl rfl rfl ?_
    refine WL_val rfl rfl rfl (R_pickT rfl rfl rfl) ?_
    refine WL_val rfl rfl rfl (R_move rfl rfl) ?_
    refine WL_skip rfl rfl rfl ?_
    refine WL_skip rfl rfl rfl ?_
    refine WL_skip rfl rfl rfl ?_
    refine WL_val rfl rfl rfl (R_pickT rfl rfl rfl) ?_
    refine WL_val rfl rfl rfl (R_move rfl rfl) ?_
    refine WL_skip rfl rfl rfl ?_
    refine WL_skip rfl rfl rfl ?_
    refine WL_skip rfl rfl rfl ?_
    refine WL_val rfl rfl rfl (R_pickT rfl rfl rfl) ?_
    refine WL_nil ?_
    refine WQ_code ?_
    refine WC_T rfl ?_
    refine WC_seq ?_
    refine WC_region ?_
    refine WL_do rfl rfl rfl (D_call (known_ok) rfl rfl rfl rfl (pqY)) ?_
    rintro _ _ ⟨_, ⟨rfl, rfl⟩, rfl⟩
    refine WL_val rfl rfl rfl (R_assign rfl rfl) ?_
    refine WL_nil ?_
    refine WQ_code ?_
    refine WC_ret ?_
    refine WQ_ret rfl rfl (.cons (.tmp rfl) .nil) rfl (by
        exact ⟨rfl, rfl⟩) (pqY)
  · refine WL_val rfl rfl rfl (R_move rfl rfl) ?_
    refine WL_val rfl rfl rfl (R_lss rfl rfl rfl) ?_
    refine WL_val rfl rfl rfl (R_pickF rfl rfl rfl) ?_
    refine WL_val rfl rfl rfl (R_move rfl rfl) ?_
    refine WL_splitD (s := 37) rfl (fun c2 => ?_) (fun c2 => ?_)
    · refine WL_skip rfl rfl rfl ?_
      refine WL_skip rfl rfl rfl ?_
      refine WL_val rfl rfl rfl (R_pickT rfl rfl rfl) ?_
      refine WL_val rfl rfl rfl (R_move rfl rfl) ?_
      refine WL_skip rfl rfl rfl ?_
      refine WL_skip rfl rfl rfl ?_
      refine WL_skip rfl rfl rfl ?_
      refine WL_val rfl rfl rfl (R_pickT rfl rfl rfl) ?_
      refine WL_val rfl rfl rfl (R_move rfl rfl) ?_
      refine WL_skip rfl rfl rfl ?_
      refine WL_skip rfl rfl rfl ?_
      refine WL_skip rfl rfl rfl ?_
      refine WL_val rfl rfl rfl (R_pickT rfl rfl rfl) ?_
      refine WL_nil ?_
      refine WQ_code ?_
      refine WC_T rfl ?_
      refine WC_seq ?_
      refine WC_region ?_
      refine WL_do rfl rfl rfl (D_call (known_ok) rfl rfl rfl rfl (pqY)) ?_
      rintro _ _ ⟨_, ⟨rfl, rfl⟩, rfl⟩
      refine WL_val rfl rfl rfl (R_assign rfl rfl) ?_
      refine WL_nil ?_
      refine WQ_code ?_
      refine WC_ret ?_
      refine WQ_ret rfl rfl (.cons (.tmp rfl) .nil) rfl (by
          exact ⟨rfl, rfl⟩) (pqY)
    · refine WL_val rfl rfl rfl (R_move rfl rfl) ?_
      refine WL_val rfl rfl rfl (R_gtr rfl rfl rfl) ?_
      refine WL_val rfl rfl rfl (R_pickF rfl rfl rfl) ?_
      refine WL_val rfl rfl rfl (R_move rfl rfl) ?_
      refine WL_splitD (s := 41) rfl (fun c3 => ?_) (fun c3 => ?_)
      · refine WL_skip rfl rfl rfl ?_
        refine WL_skip rfl rfl rfl ?_
        refine WL_skip rfl rfl rfl ?_
        refine WL_val rfl rfl rfl (R_pickT rfl rfl rfl) ?_
        refine WL_val rfl rfl rfl (R_move rfl rfl) ?_
        refine WL_skip rfl rfl rfl ?_
        refine WL_skip rfl rfl rfl ?_
        refine WL_skip rfl rfl rfl ?_
        refine WL_val rfl rfl rfl (R_pickT rfl rfl rfl) ?_
        refine WL_nil ?_
        refine WQ_code ?_
        refine WC_T rfl ?_
        refine WC_seq ?_
        refine WC_region ?_
        refine WL_do rfl rfl rfl (D_call (known_ok) rfl rfl rfl rfl (pqY)) ?_
        rintro _ _ ⟨_, ⟨rfl, rfl⟩, rfl⟩
        refine WL_val rfl rfl rfl (R_assign rfl rfl) ?_
        refine WL_nil ?_
        refine WQ_code ?_
        refine WC_ret ?_
        refine WQ_ret rfl rfl (.cons (.tmp rfl) .nil) rfl (by
            exact ⟨rfl, rfl⟩) (pqY)
      · refine WL_val rfl rfl rfl (R_loadA (vs := [_, _]) rfl ag25 rfl (mmY) rfl (atZ)) ?_
        refine WL_do rfl rfl rfl (D_call (rspot_ok one) rfl rfl rfl rfl (pqY)) ?_
        rintro _ _ ⟨_, ⟨rfl, rfl⟩, rfl⟩
        refine WL_val rfl rfl rfl (R_notD rfl rfl) ?_
        refine WL_val rfl rfl rfl (R_pickF rfl rfl rfl) ?_
        refine WL_val rfl rfl rfl (R_move rfl rfl) ?_
        refine WL_splitD (s := 46) rfl (fun c4 => ?_) (fun c4 => ?_)
        · refine WL_skip rfl rfl rfl ?_
          refine WL_skip rfl rfl rfl ?_
          refine WL_skip rfl rfl rfl ?_
          refine WL_val rfl rfl rfl (R_pickT rfl rfl rfl) ?_
          refine WL_nil ?_
          refine WQ_code ?_
          refine WC_T rfl ?_
          refine WC_seq ?_
          refine WC_region ?_
          refine WL_do rfl rfl rfl (D_call (known_ok) rfl rfl rfl rfl (pqY)) ?_
          rintro _ _ ⟨_, ⟨rfl, rfl⟩, rfl⟩
          refine WL_val rfl rfl rfl (R_assign rfl rfl) ?_
          refine WL_nil ?_
          refine WQ_code ?_
          refine WC_ret ?_
          refine WQ_ret rfl rfl (.cons (.tmp rfl) .nil) rfl (by
              exact ⟨rfl, rfl⟩) (pqY)
        · refine WL_val rfl rfl rfl (R_loadA (vs := [_, _]) rfl ag25 rfl (mmY) rfl (atZ)) ?_
          refine WL_do rfl rfl rfl (D_call (rspot_ok two) rfl rfl rfl rfl (pqY)) ?_
          rintro _ _ ⟨_, ⟨rfl, rfl⟩, rfl⟩
          refine WL_val rfl rfl rfl (R_notD rfl rfl) ?_
          refine WL_val rfl rfl rfl (R_pickF rfl rfl rfl) ?_
          refine WL_nil ?_
          refine WQ_code ?_
          refine WC_dec rfl (fun c5 => ?_) (fun c5 => ?_)
          · refine WC_seq ?_
            refine WC_region ?_
            refine WL_do rfl rfl rfl (D_call (known_ok) rfl rfl rfl rfl (pqY)) ?_
            rintro _ _ ⟨_, ⟨rfl, rfl⟩, rfl⟩
            refine WL_val rfl rfl rfl (R_assign rfl rfl) ?_
            refine WL_nil ?_
            refine WQ_code ?_
            refine WC_ret ?_
            refine WQ_ret rfl rfl (.cons (.tmp rfl) .nil) rfl (by
                exact ⟨rfl, rfl⟩) (pqY)
          · exfalso; revert h; simp_all <;> omega
theorem holds_ok (M : Nat) (hm1 : 1 ≤ M) (hm2 : M ≤ 64) (oa : Option Addr) (ent : Ent) (l : List Ac9) (c : Nat) (one two : Sp) (hv1 : vldS one) (hv2 : vldS two) (ha : Arg oa ent 4 encA9 l) (h : l.length ≤ 80) : Spec Try.prog 4 [.int .i64 (M : Int), .slice oa l.length c, ekS one, ekS two] [ent] (fun r H' => r = .bool true ∧ H' = [ent]) := by
  have hsp1 : spE one = 0 := if_pos hv1
  have hsp2 : spE two = 0 := if_pos hv2
  refine Spec.of (E := [(0, .int .i64 (M : Int)), (1, .slice oa l.length c), (2, ekS one), (3, ekS two)]) Try.func4 rfl (by kernel_rfl) Try.ntmps4 rfl rfl (fun w => ?_)
  refine WC_seq ?_
  refine WC_region ?_
  refine WL_do rfl rfl rfl (D_box (cs := [_, _]) rfl rfl rfl) ?_
  rintro _ _ ⟨b1, rfl, rfl⟩
  refine WL_do rfl rfl rfl (D_box (cs := [_, _]) rfl rfl rfl) ?_
  rintro _ _ ⟨b2, rfl, rfl⟩
  refine WL_val rfl rfl rfl (R_assign rfl rfl) ?_
  refine WL_nil ?_
  refine WQ_code ?_
  refine WC_seq ?_
  refine WC_seq ?_
  refine WC_region ?_
  refine WL_val rfl rfl rfl (R_move rfl rfl) ?_
  refine WL_val rfl rfl rfl (R_len rfl Try.underlying46 rfl) ?_
  refine WL_val rfl rfl rfl (R_gtr rfl rfl rfl) ?_
  refine WL_val rfl rfl rfl (R_move rfl rfl) ?_
  refine WL_set (s := 33) (v := .bool false) rfl (by simp; omega) ?_
  refine WL_val rfl rfl rfl (R_move rfl rfl) ?_
  refine WL_val rfl rfl rfl (R_lss rfl rfl rfl) ?_
  refine WL_val rfl rfl rfl (R_pickF rfl rfl rfl) ?_
  refine WL_val rfl rfl rfl (R_move rfl rfl) ?_
  refine WL_set (s := 37) (v := .bool false) rfl (by simp; omega) ?_
  refine WL_val rfl rfl rfl (R_move rfl rfl) ?_
  refine WL_val rfl rfl rfl (R_gtr rfl rfl rfl) ?_
  refine WL_val rfl rfl rfl (R_pickF rfl rfl rfl) ?_
  refine WL_val rfl rfl rfl (R_move rfl rfl) ?_
  refine WL_set (s := 41) (v := .bool false) rfl (by simp; omega) ?_
  refine WL_val rfl rfl rfl (R_loadA (vs := [_, _]) rfl ag25 rfl (mmY) rfl (atZ)) ?_
  refine WL_do rfl rfl rfl (D_call (rspot_ok one) rfl rfl rfl rfl (pqY)) ?_
  rintro _ _ ⟨_, ⟨rfl, rfl⟩, rfl⟩
  refine WL_val rfl rfl rfl (R_notD rfl rfl) ?_
  refine WL_val rfl rfl rfl (R_pickF rfl rfl rfl) ?_
  refine WL_val rfl rfl rfl (R_move rfl rfl) ?_
  refine WL_set (s := 46) (v := .bool false) rfl (by simpa using hv1) ?_
  refine WL_val rfl rfl rfl (R_loadA (vs := [_, _]) rfl ag25 rfl (mmY) rfl (atZ)) ?_
  refine WL_do rfl rfl rfl (D_call (rspot_ok two) rfl rfl rfl rfl (pqY)) ?_
  rintro _ _ ⟨_, ⟨rfl, rfl⟩, rfl⟩
  refine WL_val rfl rfl rfl (R_notD rfl rfl) ?_
  refine WL_val rfl rfl rfl (R_pickF rfl rfl rfl) ?_
  refine WL_nil ?_
  refine WQ_code ?_
  refine WC_dF rfl (by simpa using hv2) ?_
  refine WC_skip ?_
  refine WQ_code ?_
  refine WC_seq ?_
  refine WC_region ?_
  refine WL_val rfl rfl rfl (R_move rfl rfl) ?_
  refine WL_do rfl rfl rfl (D_call (pnew_ok M hm1 hm2) rfl rfl rfl rfl (pqY)) ?_
  rintro _ _ ⟨_, ⟨m0, rfl, rfl, g0⟩, rfl⟩
  refine WL_val rfl rfl rfl (R_move rfl rfl) ?_
  refine WL_val rfl rfl rfl (R_extract rfl rfl rfl) ?_
  refine WL_val rfl rfl rfl (R_extract rfl rfl rfl) ?_
  refine WL_val rfl rfl rfl (R_assign rfl rfl) ?_
  refine WL_val rfl rfl rfl (R_assign rfl rfl) ?_
  refine WL_nil ?_
  refine WQ_code ?_
  refine WC_seq ?_
  refine WC_seq ?_
  refine WC_region ?_
  refine WL_val rfl rfl rfl (R_move rfl rfl) ?_
  refine WL_val rfl rfl rfl (R_ptrEqNil rfl Try.underlying28 rfl) ?_
  refine WL_val rfl rfl rfl (R_move rfl rfl) ?_
  refine WL_val rfl rfl rfl (R_move rfl rfl) ?_
  refine WL_val rfl rfl rfl (R_neq rfl rfl rfl) ?_
  refine WL_set (s := 61) (v := .bool false) rfl (by simp) ?_
  refine WL_val rfl rfl rfl (R_pickF rfl rfl rfl) ?_
  refine WL_nil ?_
  refine WQ_code ?_
  refine WC_F rfl ?_
  refine WC_skip ?_
  refine WQ_code ?_
  refine WC_seq ?_
  refine WC_region ?_
  refine WL_val rfl rfl rfl (R_assign rfl rfl) ?_
  refine WL_nil ?_
  refine WQ_code ?_
  refine WC_seq ?_
  refine WC_seq ?_
  refine WC_region ?_
  refine WL_val rfl rfl rfl (R_move rfl rfl) ?_
  refine WL_val rfl rfl rfl (R_len rfl Try.underlying46 rfl) ?_
  refine WL_val rfl rfl rfl (R_move rfl rfl) ?_
  refine WL_nil ?_
  refine WQ_code ?_
  refine WC_block ?_
  refine WC_none 3 ?_
  refine WC_loopF (G := HoW9) [8,11,13,14,15,16,17,18,19,20,22,23,24,25,27,28,29,65,66,67,68,69,70,71,72,73,74,75,76,77,78,79,80,81,82,83,84,85,86,87,88,89,90,91,92,93,94,95,96,97,98,99,100,101,102,103,104,105,106,107,108,109,110,111,112,113,114,115,116,117,118,119,120,121,122,123,124,125,126,127,128,129,130,131,132,133,134,135,136,137,138,139,140,141,142,143,144,145,146,147,148,149,150,151,152,153,154,155,156,157,158,159,160,161,162,163,164,165,166,167,168,169,170,171,172,173,174,175,176,177,178,179,180,181,182,183,184,185,186,187,188,189,190,191,192,193,194,195,196,197,198,199,200,201,202,203,204,205,206,207,208,209,210,211,212,213,214,215,216,217,218,219,220,221,222,223,224,225,226,227,228,229,230,231,232,233] (fun y => y.k ≤ l.length ∧ PkIs y.N y.s y.m ∧ y.N ≤ y.k ∧ y.m.p = m0.p ∧ (∀ z ∈ y.s.W, z.at_ = one) ∧ wAt y.s.W one = y.q ∧ OwnS y.ob y.kk y.q.length y.c 1 y.pre (ivs y.q) y.tl ∧ y.s.sm.length = M) (fun y => [(65, .int .i64 (y.k : Int)), (11, sVal y.ob y.kk y.q.length y.c)]) (fun y => ⟨y.ob, cl (y.pre ++ (ivs y.q ++ y.tl)) 3⟩ :: pkH y.m) (fun y => l.length - y.k) (⟨0,0, ⟨List.replicate M 0, [], []⟩, m0, [], none, 0,0, [], []⟩) (⟨Nat.zero_le _, g0, Nat.le_refl _, rfl, fun z hz => (by cases hz), rfl, OwnS.empty 1, by simp⟩) leZ (pqY) ?_
  rintro y ⟨hyk, hy, hyn, hyp, hall, hq, hyo, hsl⟩
  rw [← hyp]
  have hql : y.q.length ≤ 64 := by rw [← hq]; exact Nat.le_trans (wAt_len _ _) hy.ps.few
  refine WC_seq ?_
  refine WC_region ?_
  refine WL_val rfl rfl rfl (R_lss rfl rfl rfl) ?_
  refine WL_nil ?_
  refine WQ_code ?_
  refine WC_seq ?_
  refine WC_dec rfl (fun c1 => ?_) (fun c1 => ?_)
  · refine WC_skip ?_
    refine WQ_code ?_
    refine WC_seq ?_
    refine WC_block ?_
    refine WC_seq ?_
    refine WC_region ?_
    obtain ⟨a, hak⟩ := exE (T := l) (i := y.k) (by omega)
    obtain ⟨lb, lk, lcs, le, lfr, rfl, rfl, hat⟩ := ha.some (by omega)
    refine WL_val rfl rfl rfl (R_indexAddrN rfl Try.underlying46 Try.sizeOf48 rfl rfl (by omega)) ?_
    refine WL_val rfl rfl rfl (R_loadAG (vs := encA9 a) rfl ag48 rfl (mmY) rfl (hat y.k a hak)) ?_
    refine WL_do rfl rfl rfl (D_alloc rfl zv48) ?_
    rintro _ _ ⟨b3, rfl, rfl⟩
    refine WL_do0 rfl rfl (D_store (vs := [_, _, _, _]) rfl Try.sizeOf48 rfl rfl rfl rfl rfl (plY) (by exact Nat.le_of_ble_eq_true rfl)) ?_
    rintro _ _ rfl
    refine WL_nil ?_
    refine WQ_code ?_
    refine WC_seq ?_
    refine WC_region ?_
    refine WL_val rfl rfl rfl (R_move rfl rfl) ?_
    refine WL_val rfl rfl rfl (R_loadA (vs := [_, _]) rfl ag25 rfl (mmY) rfl (atZ)) ?_
    refine WL_do rfl rfl rfl (D_call (pk_waiting y.N y.s y.m hy two) rfl rfl rfl rfl (pqY)) ?_
    rintro _ _ ⟨_, ⟨o1, c1, t1, rfl, own1, rfl⟩, rfl⟩
    refine WL_val rfl rfl rfl (R_move rfl rfl) ?_
    refine WL_val rfl rfl rfl (R_extract rfl rfl rfl) ?_
    refine WL_val rfl rfl rfl (R_extract rfl rfl rfl) ?_
    refine WL_val rfl rfl rfl (R_assign rfl rfl) ?_
    refine WL_val rfl rfl rfl (R_assign rfl rfl) ?_
    refine WL_nil ?_
    refine WQ_code ?_
    refine WC_seq ?_
    refine WC_seq ?_
    refine WC_region ?_
    refine WL_val rfl rfl rfl (R_move rfl rfl) ?_
    refine WL_val rfl rfl rfl (R_neq rfl rfl rfl) ?_
    refine WL_nil ?_
    refine WQ_code ?_
    refine WC_dF rfl (by rw [hsp2]; decide) ?_
    refine WC_skip ?_
    refine WQ_code ?_
    refine WC_seq ?_
    refine WC_seq ?_
    refine WC_region ?_
    refine WL_val rfl rfl rfl (R_fieldAddr rfl fa48_0 rfl) ?_
    refine WL_val rfl rfl rfl (R_load rfl sc3 rfl (mmY) rfl) ?_
    refine WL_nil ?_
    refine WQ_code ?_
    refine WC_block ?_
    refine WC_seq ?_
    refine WC_region ?_
    refine WL_val rfl rfl rfl (R_eql rfl rfl rfl) ?_
    refine WL_val rfl rfl rfl (R_assign rfl rfl) ?_
    refine WL_nil ?_
    refine WQ_code ?_
    refine WC_dec rfl (fun c2 => ?_) (fun c2 => ?_)
    · refine WC_region ?_
      refine WL_val rfl rfl rfl (R_move rfl rfl) ?_
      refine WL_val rfl rfl rfl (R_fieldAddr rfl fa48_1 rfl) ?_
      refine WL_val rfl rfl rfl (R_load rfl sc3 rfl (mmY) rfl) ?_
      refine WL_do rfl rfl rfl (D_call (pk_start y.N y.s y.m hy (by omega) a.task) rfl rfl rfl rfl (pqY)) ?_
      rintro _ _ ⟨_, ⟨m2, rfl, rfl, hp2, h2⟩, rfl⟩
      rw [← hp2]
      refine WL_nil ?_
      refine WQ_code ?_
      refine WC_seq ?_
      refine WC_region ?_
      have hall2 : ∀ w0 ∈ (y.s.step 0 1 a.task).W, w0.at_ = one := hall
      have hq2 : wAt (y.s.step 0 1 a.task).W one = y.q := hq
      have hw2 : (y.s.step 0 1 a.task).waiting one = y.q := (waiting_v hv1).trans hq2
      have hql2 : y.q.length ≤ 64 := by rw [← hq2]; exact Nat.le_trans (wAt_len _ _) h2.ps.few
      have hsl2 : (y.s.step 0 1 a.task).sm.length = M := by rw [step_len]; exact hsl
      refine WL_val rfl rfl rfl (R_move rfl rfl) ?_
      refine WL_val rfl rfl rfl (R_loadA (vs := [_, _]) rfl ag25 rfl (mmY) rfl (atZ)) ?_
      refine WL_do rfl rfl rfl (D_call (pk_waiting (y.N + 1) (y.s.step 0 1 a.task) m2 h2 two) rfl rfl rfl rfl (pqY)) ?_
      rintro _ _ ⟨_, ⟨o2, c2, t2, rfl, own2, rfl⟩, rfl⟩
      refine WL_val rfl rfl rfl (R_move rfl rfl) ?_
      refine WL_val rfl rfl rfl (R_extract rfl rfl rfl) ?_
      refine WL_val rfl rfl rfl (R_extract rfl rfl rfl) ?_
      refine WL_val rfl rfl rfl (R_assign rfl rfl) ?_
      refine WL_val rfl rfl rfl (R_assign rfl rfl) ?_
      refine WL_nil ?_
      refine WQ_code ?_
      refine WC_seq ?_
      refine WC_seq ?_
      refine WC_region ?_
      refine WL_val rfl rfl rfl (R_move rfl rfl) ?_
      refine WL_val rfl rfl rfl (R_neq rfl rfl rfl) ?_
      refine WL_set (s := 177) (v := .bool false) rfl (by simp [hsp2]) ?_
      refine WL_val rfl rfl rfl (R_move rfl rfl) ?_
      refine WL_val rfl rfl rfl (R_loadA (vs := [_, _]) rfl ag25 rfl (mmY) rfl (atZ)) ?_
      refine WL_val rfl rfl rfl (R_loadA (vs := [_, _]) rfl ag25 rfl (mmY) rfl (atZ)) ?_
      refine WL_val rfl rfl rfl (R_sne25 rfl rfl rfl rfl) ?_
      refine WL_val rfl rfl rfl (R_move rfl rfl) ?_
      refine WL_splitD (s := 182) rfl (fun c3 => ?_) (fun c3 => ?_)
      · have hne : one ≠ two := fun e => c3 (by rw [e]; exact ⟨rfl, rfl⟩)
        have hwA : y.s.waiting two = [] := wait_none hall hne
        have hwB := wait_none hall2 hne
        rw [hwA] at own1
        rw [hwB] at own2
        rw [hwA]
        try rw [hwB]
        refine WL_val rfl rfl rfl (R_move rfl rfl) ?_
        refine WL_val rfl rfl rfl (R_len rfl Try.underlying32 rfl) ?_
        refine WL_val rfl rfl rfl (R_neq rfl rfl rfl) ?_
        refine WL_set (s := 185) (v := .bool false) rfl (by simp) ?_
        refine WL_val rfl rfl rfl (R_move rfl rfl) ?_
        refine WL_val rfl rfl rfl (R_move rfl rfl) ?_
        refine WL_val rfl rfl rfl (R_move rfl rfl) ?_
        refine WL_do rfl rfl rfl (D_call (same_ok [] (by decide) o1 c1 t1 o2 c2 t2 own1 own2) rfl rfl rfl rfl (pqY)) ?_
        rintro _ _ ⟨_, ⟨rfl, rfl⟩, rfl⟩
        refine WL_val rfl rfl rfl (R_not rfl rfl) ?_
        refine WL_val rfl rfl rfl (R_pickF rfl rfl rfl) ?_
        refine WL_val rfl rfl rfl (R_pickT rfl rfl rfl) ?_
        refine WL_val rfl rfl rfl (R_pickF rfl rfl rfl) ?_
        refine WL_val rfl rfl rfl (R_move rfl rfl) ?_
        refine WL_val rfl rfl rfl (R_move rfl rfl) ?_
        refine WL_val rfl rfl rfl (R_loadA (vs := [_, _]) rfl ag25 rfl (mmY) rfl (atZ)) ?_
        refine WL_val rfl rfl rfl (R_move rfl rfl) ?_
        refine WL_do rfl rfl rfl (D_call (lwaits_okS (y.N + 1) (y.s.step 0 1 a.task) m2 h2 one hv1 y.q y.ob y.kk y.c y.pre y.tl hyo hw2) rfl rfl rfl rfl (pqY)) ?_
        rintro _ _ ⟨_, ⟨rfl, rfl⟩, rfl⟩
        refine WL_val rfl rfl rfl (R_not rfl rfl) ?_
        refine WL_val rfl rfl rfl (R_pickF rfl rfl rfl) ?_
        refine WL_nil ?_
        refine WQ_code ?_
        refine WC_F rfl ?_
        refine WC_skip ?_
        refine WQ_code ?_
        refine WC_seq ?_
        refine WC_region ?_
        refine WL_val rfl rfl rfl (R_assign rfl rfl) ?_
        refine WL_nil ?_
        refine WQ_code ?_
        refine WC_block ?_
        refine WC_loopF (G := Nat) [8,24,25,27,28,29,201,202,203,204,205,206,207,208,209,210,211,212,213,214,215,216,217,218,219,220,221,222,223,224,225,226,227,228,229,230,231,232] (fun j => j ≤ M) (fun j => [(24, .int .i64 (j : Int))]) (fun j => []) (fun j => M - j) (0) (Nat.zero_le _) leZ (pqY) ?_
        rintro j hj
        refine WC_seq ?_
        refine WC_seq ?_
        refine WC_region ?_
        refine WL_val rfl rfl rfl (R_move rfl rfl) ?_
        refine WL_val rfl rfl rfl (R_move rfl rfl) ?_
        refine WL_val rfl rfl rfl (R_lss rfl rfl rfl) ?_
        refine WL_nil ?_
        refine WQ_code ?_
        refine WC_dec rfl (fun c4 => ?_) (fun c4 => ?_)
        · refine WC_skip ?_
          refine WQ_code ?_
          refine WC_seq ?_
          refine WC_block ?_
          refine WC_seq ?_
          refine WC_region ?_
          refine WL_val rfl rfl rfl (R_assign rfl rfl) ?_
          refine WL_nil ?_
          refine WQ_code ?_
          refine WC_seq ?_
          refine WC_seq ?_
          refine WC_region ?_
          refine WL_val rfl rfl rfl (R_move rfl rfl) ?_
          refine WL_val rfl rfl rfl (R_len rfl Try.underlying32 rfl) ?_
          refine WL_val rfl rfl rfl (R_move rfl rfl) ?_
          refine WL_nil ?_
          refine WQ_code ?_
          refine WC_block ?_
          refine WC_loopF (G := InW9) [25,27,208,209,210,211,212,213,214,215,216,217,218] (fun u => u.j ≤ y.q.length ∧ (u.b = true ↔ ∃ v ∈ y.q.take u.j, v = (j : Int))) (fun u => [(208, .int .i64 (u.j : Int)), (25, .bool u.b)]) (fun u => []) (fun u => y.q.length - u.j) (⟨0, false⟩) (⟨Nat.zero_le _, by simp⟩) leZ (pqY) ?_
          rintro u ⟨huj, hub⟩
          refine WC_seq ?_
          refine WC_region ?_
          refine WL_val rfl rfl rfl (R_lss rfl rfl rfl) ?_
          refine WL_nil ?_
          refine WQ_code ?_
          refine WC_seq ?_
          refine WC_dec rfl (fun c5 => ?_) (fun c5 => ?_)
          · refine WC_skip ?_
            refine WQ_code ?_
            refine WC_seq ?_
            refine WC_block ?_
            refine WC_seq ?_
            refine WC_region ?_
            obtain ⟨v9, hx⟩ := exE (T := y.q) (i := u.j) (by omega)
            obtain ⟨wb, hwb⟩ := (hyo).some_of (by omega)
            refine WL_val rfl rfl rfl (R_indexS hwb rfl Try.underlying32 Try.sizeOf3 rfl rfl (by omega)) ?_
            refine WL_val rfl rfl rfl (R_loadO hwb rfl sc3 rfl (mmY) (hyo.get encI1 hx (by omega) (j := 0) (by omega))) ?_
            refine WL_val rfl rfl rfl (R_assign rfl rfl) ?_
            refine WL_nil ?_
            refine WQ_code ?_
            refine WC_region ?_
            refine WL_val rfl rfl rfl (R_move rfl rfl) ?_
            refine WL_val rfl rfl rfl (R_move rfl rfl) ?_
            refine WL_split (s := 213) rfl (fun c6 => ?_) (fun c6 => ?_)
            · refine WL_skip rfl rfl rfl ?_
              refine WL_skip rfl rfl rfl ?_
              refine WL_skip rfl rfl rfl ?_
              refine WL_val rfl rfl rfl (R_pickT rfl rfl rfl) ?_
              refine WL_val rfl rfl rfl (R_assign rfl rfl) ?_
              refine WL_nil ?_
              refine WQ_code ?_
              refine WC_region ?_
              refine WL_val rfl rfl rfl (R_add rfl rfl rfl (by omega)) ?_
              refine WL_val rfl rfl rfl (R_move rfl rfl) ?_
              refine WL_nil ?_
              refine WQ_nextF (⟨u.j + 1, true⟩) (⟨by dsimp only; omega, by dsimp only; rw [take_get hx]; obtain ⟨v8, hv8, e8⟩ := hub.1 (by assumption); exact ⟨fun _ => ⟨v8, List.mem_append_left _ hv8, e8⟩, fun _ => rfl⟩⟩) (by dsimp only; omega) leZ (psZ) rfl (pqY)
            · refine WL_val rfl rfl rfl (R_move rfl rfl) ?_
              refine WL_val rfl rfl rfl (R_move rfl rfl) ?_
              refine WL_val rfl rfl rfl (R_eql rfl rfl rfl) ?_
              refine WL_val rfl rfl rfl (R_pickF rfl rfl rfl) ?_
              refine WL_val rfl rfl rfl (R_assign rfl rfl) ?_
              refine WL_nil ?_
              refine WQ_code ?_
              refine WC_region ?_
              refine WL_val rfl rfl rfl (R_add rfl rfl rfl (by omega)) ?_
              refine WL_val rfl rfl rfl (R_move rfl rfl) ?_
              refine WL_nil ?_
              refine WQ_nextF (⟨u.j + 1, decide (v9 = (j : Int))⟩) (⟨by dsimp only; omega, by dsimp only; rw [take_get hx, decide_eq_true_eq]; exact ⟨fun e8 => ⟨v9, List.mem_append_right _ (List.mem_singleton.2 rfl), e8⟩, fun ⟨v8, hv8, e8⟩ => (List.mem_append.1 hv8).elim (fun h8 => absurd (hub.2 ⟨v8, h8, e8⟩) (by simp_all)) (fun h8 => (List.mem_singleton.1 h8) ▸ e8)⟩⟩) (by dsimp only; omega) leZ (psZ) rfl (pqY)
          · rw [List.take_of_length_le (by omega)] at hub
            refine WC_exit ?_
            refine WQ_code ?_
            refine WC_seq ?_
            refine WC_region ?_
            obtain ⟨x9, hx9⟩ := exE (T := (y.s.step 0 1 a.task).sm) (i := j) (by omega)
            have hst9 := stR_in hx9
            have hin9 := in_state h2.ps hall2 hx9
            rw [hq2] at hin9
            have hb9 : u.b = decide (x9 = 2) := by rw [Bool.eq_iff_iff, hub, hin9]; simp
            refine WL_val rfl rfl rfl (R_move rfl rfl) ?_
            refine WL_val rfl rfl rfl (R_move rfl rfl) ?_
            refine WL_do rfl rfl rfl (D_call (pk_state (y.N + 1) (y.s.step 0 1 a.task) m2 h2 (j : Int)) rfl rfl rfl rfl (pqY)) ?_
            rintro _ _ ⟨_, ⟨rfl, rfl⟩, rfl⟩
            rw [hst9]
            refine WL_val rfl rfl rfl (R_move rfl rfl) ?_
            refine WL_val rfl rfl rfl (R_extract rfl rfl rfl) ?_
            refine WL_val rfl rfl rfl (R_extract rfl rfl rfl) ?_
            refine WL_val rfl rfl rfl (R_assign rfl rfl) ?_
            refine WL_val rfl rfl rfl (R_assign rfl rfl) ?_
            refine WL_nil ?_
            refine WQ_code ?_
            refine WC_seq ?_
            refine WC_region ?_
            refine WL_val rfl rfl rfl (R_move rfl rfl) ?_
            refine WL_val rfl rfl rfl (R_neq rfl rfl rfl) ?_
            refine WL_set (s := 226) (v := .bool false) rfl (by simp) ?_
            refine WL_val rfl rfl rfl (R_move rfl rfl) ?_
            refine WL_val rfl rfl rfl (R_move rfl rfl) ?_
            refine WL_val rfl rfl rfl (R_move rfl rfl) ?_
            refine WL_val rfl rfl rfl (R_eql rfl rfl rfl) ?_
            refine WL_val rfl rfl rfl (R_boolNe rfl Try.underlying4 rfl rfl) ?_
            refine WL_set (s := 231) (v := .bool false) rfl (by rw [hb9]; simp) ?_
            refine WL_val rfl rfl rfl (R_pickF rfl rfl rfl) ?_
            refine WL_nil ?_
            refine WQ_code ?_
            refine WC_F rfl ?_
            refine WC_skip ?_
            refine WQ_code ?_
            refine WC_region ?_
            refine WL_val rfl rfl rfl (R_move rfl rfl) ?_
            refine WL_val rfl rfl rfl (R_add rfl rfl rfl (by omega)) ?_
            refine WL_val rfl rfl rfl (R_assign rfl rfl) ?_
            refine WL_nil ?_
            refine WQ_nextF (j + 1) (by omega) (by omega) leZ (psZ) rfl (pqY)
        · refine WC_exit ?_
          refine WQ_code ?_
          refine WC_region ?_
          refine WL_val rfl rfl rfl (R_add rfl rfl rfl (by omega)) ?_
          refine WL_val rfl rfl rfl (R_move rfl rfl) ?_
          refine WL_nil ?_
          refine WQ_nextF (⟨y.k + 1, (y.N + 1), (y.s.step 0 1 a.task), m2, y.q, y.ob, y.kk, y.c, y.pre, y.tl⟩) (⟨by dsimp only; omega, h2, by dsimp only; omega, rfl, hall2, hq2, hyo, hsl2⟩) (by dsimp only; omega) leZ (psZ) rfl (pqY)
      · refine WL_skip rfl rfl rfl ?_
        refine WL_skip rfl rfl rfl ?_
        refine WL_skip rfl rfl rfl ?_
        refine WL_skip rfl rfl rfl ?_
        refine WL_skip rfl rfl rfl ?_
        refine WL_skip rfl rfl rfl ?_
        refine WL_skip rfl rfl rfl ?_
        refine WL_skip rfl rfl rfl ?_
        refine WL_skip rfl rfl rfl ?_
        refine WL_val rfl rfl rfl (R_pickF rfl rfl rfl) ?_
        refine WL_val rfl rfl rfl (R_pickF rfl rfl rfl) ?_
        refine WL_val rfl rfl rfl (R_move rfl rfl) ?_
        refine WL_val rfl rfl rfl (R_move rfl rfl) ?_
        refine WL_val rfl rfl rfl (R_loadA (vs := [_, _]) rfl ag25 rfl (mmY) rfl (atZ)) ?_
        refine WL_val rfl rfl rfl (R_move rfl rfl) ?_
        refine WL_do rfl rfl rfl (D_call (lwaits_okS (y.N + 1) (y.s.step 0 1 a.task) m2 h2 one hv1 y.q y.ob y.kk y.c y.pre y.tl hyo hw2) rfl rfl rfl rfl (pqY)) ?_
        rintro _ _ ⟨_, ⟨rfl, rfl⟩, rfl⟩
        refine WL_val rfl rfl rfl (R_not rfl rfl) ?_
        refine WL_val rfl rfl rfl (R_pickF rfl rfl rfl) ?_
        refine WL_nil ?_
        refine WQ_code ?_
        refine WC_F rfl ?_
        refine WC_skip ?_
        refine WQ_code ?_
        refine WC_seq ?_
        refine WC_region ?_
        refine WL_val rfl rfl rfl (R_assign rfl rfl) ?_
        refine WL_nil ?_
        refine WQ_code ?_
        refine WC_block ?_
        refine WC_loopF (G := Nat) [8,24,25,27,28,29,201,202,203,204,205,206,207,208,209,210,211,212,213,214,215,216,217,218,219,220,221,222,223,224,225,226,227,228,229,230,231,232] (fun j => j ≤ M) (fun j => [(24, .int .i64 (j : Int))]) (fun j => []) (fun j => M - j) (0) (Nat.zero_le _) leZ (pqY) ?_
        rintro j hj
        refine WC_seq ?_
        refine WC_seq ?_
        refine WC_region ?_
        refine WL_val rfl rfl rfl (R_move rfl rfl) ?_
        refine WL_val rfl rfl rfl (R_move rfl rfl) ?_
        refine WL_val rfl rfl rfl (R_lss rfl rfl rfl) ?_
        refine WL_nil ?_
        refine WQ_code ?_
        refine WC_dec rfl (fun c7 => ?_) (fun c7 => ?_)
        · refine WC_skip ?_
          refine WQ_code ?_
          refine WC_seq ?_
          refine WC_block ?_
          refine WC_seq ?_
          refine WC_region ?_
          refine WL_val rfl rfl rfl (R_assign rfl rfl) ?_
          refine WL_nil ?_
          refine WQ_code ?_
          refine WC_seq ?_
          refine WC_seq ?_
          refine WC_region ?_
          refine WL_val rfl rfl rfl (R_move rfl rfl) ?_
          refine WL_val rfl rfl rfl (R_len rfl Try.underlying32 rfl) ?_
          refine WL_val rfl rfl rfl (R_move rfl rfl) ?_
          refine WL_nil ?_
          refine WQ_code ?_
          refine WC_block ?_
          refine WC_loopF (G := InW9) [25,27,208,209,210,211,212,213,214,215,216,217,218] (fun u => u.j ≤ y.q.length ∧ (u.b = true ↔ ∃ v ∈ y.q.take u.j, v = (j : Int))) (fun u => [(208, .int .i64 (u.j : Int)), (25, .bool u.b)]) (fun u => []) (fun u => y.q.length - u.j) (⟨0, false⟩) (⟨Nat.zero_le _, by simp⟩) leZ (pqY) ?_
          rintro u ⟨huj, hub⟩
          refine WC_seq ?_
          refine WC_region ?_
          refine WL_val rfl rfl rfl (R_lss rfl rfl rfl) ?_
          refine WL_nil ?_
          refine WQ_code ?_
          refine WC_seq ?_
          refine WC_dec rfl (fun c8 => ?_) (fun c8 => ?_)
          · refine WC_skip ?_
            refine WQ_code ?_
            refine WC_seq ?_
            refine WC_block ?_
            refine WC_seq ?_
            refine WC_region ?_
            obtain ⟨v9, hx⟩ := exE (T := y.q) (i := u.j) (by omega)
            obtain ⟨wb, hwb⟩ := (hyo).some_of (by omega)
            refine WL_val rfl rfl rfl (R_indexS hwb rfl Try.underlying32 Try.sizeOf3 rfl rfl (by omega)) ?_
            refine WL_val rfl rfl rfl (R_loadO hwb rfl sc3 rfl (mmY) (hyo.get encI1 hx (by omega) (j := 0) (by omega))) ?_
            refine WL_val rfl rfl rfl (R_assign rfl rfl) ?_
            refine WL_nil ?_
            refine WQ_code ?_
            refine WC_region ?_
            refine WL_val rfl rfl rfl (R_move rfl rfl) ?_
            refine WL_val rfl rfl rfl (R_move rfl rfl) ?_
            refine WL_split (s := 213) rfl (fun c9 => ?_) (fun c9 => ?_)
            · refine WL_skip rfl rfl rfl ?_
              refine WL_skip rfl rfl rfl ?_
              refine WL_skip rfl rfl rfl ?_
              refine WL_val rfl rfl rfl (R_pickT rfl rfl rfl) ?_
              refine WL_val rfl rfl rfl (R_assign rfl rfl) ?_
              refine WL_nil ?_
              refine WQ_code ?_
              refine WC_region ?_
              refine WL_val rfl rfl rfl (R_add rfl rfl rfl (by omega)) ?_
              refine WL_val rfl rfl rfl (R_move rfl rfl) ?_
              refine WL_nil ?_
              refine WQ_nextF (⟨u.j + 1, true⟩) (⟨by dsimp only; omega, by dsimp only; rw [take_get hx]; obtain ⟨v8, hv8, e8⟩ := hub.1 (by assumption); exact ⟨fun _ => ⟨v8, List.mem_append_left _ hv8, e8⟩, fun _ => rfl⟩⟩) (by dsimp only; omega) leZ (psZ) rfl (pqY)
            · refine WL_val rfl rfl rfl (R_move rfl rfl) ?_
              refine WL_val rfl rfl rfl (R_move rfl rfl) ?_
              refine WL_val rfl rfl rfl (R_eql rfl rfl rfl) ?_
              refine WL_val rfl rfl rfl (R_pickF rfl rfl rfl) ?_
              refine WL_val rfl rfl rfl (R_assign rfl rfl) ?_
              refine WL_nil ?_
              refine WQ_code ?_
              refine WC_region ?_
              refine WL_val rfl rfl rfl (R_add rfl rfl rfl (by omega)) ?_
              refine WL_val rfl rfl rfl (R_move rfl rfl) ?_
              refine WL_nil ?_
              refine WQ_nextF (⟨u.j + 1, decide (v9 = (j : Int))⟩) (⟨by dsimp only; omega, by dsimp only; rw [take_get hx, decide_eq_true_eq]; exact ⟨fun e8 => ⟨v9, List.mem_append_right _ (List.mem_singleton.2 rfl), e8⟩, fun ⟨v8, hv8, e8⟩ => (List.mem_append.1 hv8).elim (fun h8 => absurd (hub.2 ⟨v8, h8, e8⟩) (by simp_all)) (fun h8 => (List.mem_singleton.1 h8) ▸ e8)⟩⟩) (by dsimp only; omega) leZ (psZ) rfl (pqY)
          · rw [List.take_of_length_le (by omega)] at hub
            refine WC_exit ?_
            refine WQ_code ?_
            refine WC_seq ?_
            refine WC_region ?_
            obtain ⟨x9, hx9⟩ := exE (T := (y.s.step 0 1 a.task).sm) (i := j) (by omega)
            have hst9 := stR_in hx9
            have hin9 := in_state h2.ps hall2 hx9
            rw [hq2] at hin9
            have hb9 : u.b = decide (x9 = 2) := by rw [Bool.eq_iff_iff, hub, hin9]; simp
            refine WL_val rfl rfl rfl (R_move rfl rfl) ?_
            refine WL_val rfl rfl rfl (R_move rfl rfl) ?_
            refine WL_do rfl rfl rfl (D_call (pk_state (y.N + 1) (y.s.step 0 1 a.task) m2 h2 (j : Int)) rfl rfl rfl rfl (pqY)) ?_
            rintro _ _ ⟨_, ⟨rfl, rfl⟩, rfl⟩
            rw [hst9]
            refine WL_val rfl rfl rfl (R_move rfl rfl) ?_
            refine WL_val rfl rfl rfl (R_extract rfl rfl rfl) ?_
            refine WL_val rfl rfl rfl (R_extract rfl rfl rfl) ?_
            refine WL_val rfl rfl rfl (R_assign rfl rfl) ?_
            refine WL_val rfl rfl rfl (R_assign rfl rfl) ?_
            refine WL_nil ?_
            refine WQ_code ?_
            refine WC_seq ?_
            refine WC_region ?_
            refine WL_val rfl rfl rfl (R_move rfl rfl) ?_
            refine WL_val rfl rfl rfl (R_neq rfl rfl rfl) ?_
            refine WL_set (s := 226) (v := .bool false) rfl (by simp) ?_
            refine WL_val rfl rfl rfl (R_move rfl rfl) ?_
            refine WL_val rfl rfl rfl (R_move rfl rfl) ?_
            refine WL_val rfl rfl rfl (R_move rfl rfl) ?_
            refine WL_val rfl rfl rfl (R_eql rfl rfl rfl) ?_
            refine WL_val rfl rfl rfl (R_boolNe rfl Try.underlying4 rfl rfl) ?_
            refine WL_set (s := 231) (v := .bool false) rfl (by rw [hb9]; simp) ?_
            refine WL_val rfl rfl rfl (R_pickF rfl rfl rfl) ?_
            refine WL_nil ?_
            refine WQ_code ?_
            refine WC_F rfl ?_
            refine WC_skip ?_
            refine WQ_code ?_
            refine WC_region ?_
            refine WL_val rfl rfl rfl (R_move rfl rfl) ?_
            refine WL_val rfl rfl rfl (R_add rfl rfl rfl (by omega)) ?_
            refine WL_val rfl rfl rfl (R_assign rfl rfl) ?_
            refine WL_nil ?_
            refine WQ_nextF (j + 1) (by omega) (by omega) leZ (psZ) rfl (pqY)
        · refine WC_exit ?_
          refine WQ_code ?_
          refine WC_region ?_
          refine WL_val rfl rfl rfl (R_add rfl rfl rfl (by omega)) ?_
          refine WL_val rfl rfl rfl (R_move rfl rfl) ?_
          refine WL_nil ?_
          refine WQ_nextF (⟨y.k + 1, (y.N + 1), (y.s.step 0 1 a.task), m2, y.q, y.ob, y.kk, y.c, y.pre, y.tl⟩) (⟨by dsimp only; omega, h2, by dsimp only; omega, rfl, hall2, hq2, hyo, hsl2⟩) (by dsimp only; omega) leZ (psZ) rfl (pqY)
    · refine WC_seq ?_
      refine WC_region ?_
      refine WL_val rfl rfl rfl (R_eql rfl rfl rfl) ?_
      refine WL_val rfl rfl rfl (R_assign rfl rfl) ?_
      refine WL_nil ?_
      refine WQ_code ?_
      refine WC_dec rfl (fun c10 => ?_) (fun c10 => ?_)
      · refine WC_region ?_
        refine WL_val rfl rfl rfl (R_move rfl rfl) ?_
        refine WL_val rfl rfl rfl (R_fieldAddr rfl fa48_1 rfl) ?_
        refine WL_val rfl rfl rfl (R_load rfl sc3 rfl (mmY) rfl) ?_
        refine WL_do rfl rfl rfl (D_call (pk_fin y.N y.s y.m hy (by omega) a.task) rfl rfl rfl rfl (pqY)) ?_
        rintro _ _ ⟨_, ⟨m2, rfl, rfl, hp2, h2⟩, rfl⟩
        rw [← hp2]
        refine WL_nil ?_
        refine WQ_code ?_
        refine WC_seq ?_
        refine WC_region ?_
        have hall2 : ∀ w0 ∈ (y.s.step 1 0 a.task).W, w0.at_ = one := hall
        have hq2 : wAt (y.s.step 1 0 a.task).W one = y.q := hq
        have hw2 : (y.s.step 1 0 a.task).waiting one = y.q := (waiting_v hv1).trans hq2
        have hql2 : y.q.length ≤ 64 := by rw [← hq2]; exact Nat.le_trans (wAt_len _ _) h2.ps.few
        have hsl2 : (y.s.step 1 0 a.task).sm.length = M := by rw [step_len]; exact hsl
        refine WL_val rfl rfl rfl (R_move rfl rfl) ?_
        refine WL_val rfl rfl rfl (R_loadA (vs := [_, _]) rfl ag25 rfl (mmY) rfl (atZ)) ?_
        refine WL_do rfl rfl rfl (D_call (pk_waiting (y.N + 1) (y.s.step 1 0 a.task) m2 h2 two) rfl rfl rfl rfl (pqY)) ?_
        rintro _ _ ⟨_, ⟨o2, c2, t2, rfl, own2, rfl⟩, rfl⟩
        refine WL_val rfl rfl rfl (R_move rfl rfl) ?_
        refine WL_val rfl rfl rfl (R_extract rfl rfl rfl) ?_
        refine WL_val rfl rfl rfl (R_extract rfl rfl rfl) ?_
        refine WL_val rfl rfl rfl (R_assign rfl rfl) ?_
        refine WL_val rfl rfl rfl (R_assign rfl rfl) ?_
        refine WL_nil ?_
        refine WQ_code ?_
        refine WC_seq ?_
        refine WC_seq ?_
        refine WC_region ?_
        refine WL_val rfl rfl rfl (R_move rfl rfl) ?_
        refine WL_val rfl rfl rfl (R_neq rfl rfl rfl) ?_
        refine WL_set (s := 177) (v := .bool false) rfl (by simp [hsp2]) ?_
        refine WL_val rfl rfl rfl (R_move rfl rfl) ?_
        refine WL_val rfl rfl rfl (R_loadA (vs := [_, _]) rfl ag25 rfl (mmY) rfl (atZ)) ?_
        refine WL_val rfl rfl rfl (R_loadA (vs := [_, _]) rfl ag25 rfl (mmY) rfl (atZ)) ?_
        refine WL_val rfl rfl rfl (R_sne25 rfl rfl rfl rfl) ?_
        refine WL_val rfl rfl rfl (R_move rfl rfl) ?_
        refine WL_splitD (s := 182) rfl (fun c11 => ?_) (fun c11 => ?_)
        · have hne : one ≠ two := fun e => c11 (by rw [e]; exact ⟨rfl, rfl⟩)
          have hwA : y.s.waiting two = [] := wait_none hall hne
          have hwB := wait_none hall2 hne
          rw [hwA] at own1
          rw [hwB] at own2
          rw [hwA]
          try rw [hwB]
          refine WL_val rfl rfl rfl (R_move rfl rfl) ?_
          refine WL_val rfl rfl rfl (R_len rfl Try.underlying32 rfl) ?_
          refine WL_val rfl rfl rfl (R_neq rfl rfl rfl) ?_
          refine WL_set (s := 185) (v := .bool false) rfl (by simp) ?_
          refine WL_val rfl rfl rfl (R_move rfl rfl) ?_
          refine WL_val rfl rfl rfl (R_move rfl rfl) ?_
          refine WL_val rfl rfl rfl (R_move rfl rfl) ?_
          refine WL_do rfl rfl rfl (D_call (same_ok [] (by decide) o1 c1 t1 o2 c2 t2 own1 own2) rfl rfl rfl rfl (pqY)) ?_
          rintro _ _ ⟨_, ⟨rfl, rfl⟩, rfl⟩
          refine WL_val rfl rfl rfl (R_not rfl rfl) ?_
          refine WL_val rfl rfl rfl (R_pickF rfl rfl rfl) ?_
          refine WL_val rfl rfl rfl (R_pickT rfl rfl rfl) ?_
          refine WL_val rfl rfl rfl (R_pickF rfl rfl rfl) ?_
          refine WL_val rfl rfl rfl (R_move rfl rfl) ?_
          refine WL_val rfl rfl rfl (R_move rfl rfl) ?_
          refine WL_val rfl rfl rfl (R_loadA (vs := [_, _]) rfl ag25 rfl (mmY) rfl (atZ)) ?_
          refine WL_val rfl rfl rfl (R_move rfl rfl) ?_
          refine WL_do rfl rfl rfl (D_call (lwaits_okS (y.N + 1) (y.s.step 1 0 a.task) m2 h2 one hv1 y.q y.ob y.kk y.c y.pre y.tl hyo hw2) rfl rfl rfl rfl (pqY)) ?_
          rintro _ _ ⟨_, ⟨rfl, rfl⟩, rfl⟩
          refine WL_val rfl rfl rfl (R_not rfl rfl) ?_
          refine WL_val rfl rfl rfl (R_pickF rfl rfl rfl) ?_
          refine WL_nil ?_
          refine WQ_code ?_
          refine WC_F rfl ?_
          refine WC_skip ?_
          refine WQ_code ?_
          refine WC_seq ?_
          refine WC_region ?_
          refine WL_val rfl rfl rfl (R_assign rfl rfl) ?_
          refine WL_nil ?_
          refine WQ_code ?_
          refine WC_block ?_
          refine WC_loopF (G := Nat) [8,24,25,27,28,29,201,202,203,204,205,206,207,208,209,210,211,212,213,214,215,216,217,218,219,220,221,222,223,224,225,226,227,228,229,230,231,232] (fun j => j ≤ M) (fun j => [(24, .int .i64 (j : Int))]) (fun j => []) (fun j => M - j) (0) (Nat.zero_le _) leZ (pqY) ?_
          rintro j hj
          refine WC_seq ?_
          refine WC_seq ?_
          refine WC_region ?_
          refine WL_val rfl rfl rfl (R_move rfl rfl) ?_
          refine WL_val rfl rfl rfl (R_move rfl rfl) ?_
          refine WL_val rfl rfl rfl (R_lss rfl rfl rfl) ?_
          refine WL_nil ?_
          refine WQ_code ?_
          refine WC_dec rfl (fun c12 => ?_) (fun c12 => ?_)
          · refine WC_skip ?_
            refine WQ_code ?_
            refine WC_seq ?_
            refine WC_block ?_
            refine WC_seq ?_
            refine WC_region ?_
            refine WL_val rfl rfl rfl (R_assign rfl rfl) ?_
            refine WL_nil ?_
            refine WQ_code ?_
            refine WC_seq ?_
            refine WC_seq ?_
            refine WC_region ?_
            refine WL_val rfl rfl rfl (R_move rfl rfl) ?_
            refine WL_val rfl rfl rfl (R_len rfl Try.underlying32 rfl) ?_
            refine WL_val rfl rfl rfl (R_move rfl rfl) ?_
            refine WL_nil ?_
            refine WQ_code ?_
            refine WC_block ?_
            refine WC_loopF (G := InW9) [25,27,208,209,210,211,212,213,214,215,216,217,218] (fun u => u.j ≤ y.q.length ∧ (u.b = true ↔ ∃ v ∈ y.q.take u.j, v = (j : Int))) (fun u => [(208, .int .i64 (u.j : Int)), (25, .bool u.b)]) (fun u => []) (fun u => y.q.length - u.j) (⟨0, false⟩) (⟨Nat.zero_le _, by simp⟩) leZ (pqY) ?_
            rintro u ⟨huj, hub⟩
            refine WC_seq ?_
            refine WC_region ?_
            refine WL_val rfl rfl rfl (R_lss rfl rfl rfl) ?_
            refine WL_nil ?_
            refine WQ_code ?_
            refine WC_seq ?_
            refine WC_dec rfl (fun c13 => ?_) (fun c13 => ?_)
            · refine WC_skip ?_
              refine WQ_code ?_
              refine WC_seq ?_
              refine WC_block ?_
              refine WC_seq ?_
              refine WC_region ?_
              obtain ⟨v9, hx⟩ := exE (T := y.q) (i := u.j) (by omega)
              obtain ⟨wb, hwb⟩ := (hyo).some_of (by omega)
              refine WL_val rfl rfl rfl (R_indexS hwb rfl Try.underlying32 Try.sizeOf3 rfl rfl (by omega)) ?_
              refine WL_val rfl rfl rfl (R_loadO hwb rfl sc3 rfl (mmY) (hyo.get encI1 hx (by omega) (j := 0) (by omega))) ?_
              refine WL_val rfl rfl rfl (R_assign rfl rfl) ?_
              refine WL_nil ?_
              refine WQ_code ?_
              refine WC_region ?_
              refine WL_val rfl rfl rfl (R_move rfl rfl) ?_
              refine WL_val rfl rfl rfl (R_move rfl rfl) ?_
              refine WL_split (s := 213) rfl (fun c14 => ?_) (fun c14 => ?_)
              · refine WL_skip rfl rfl rfl ?_
                refine WL_skip rfl rfl rfl ?_
                refine WL_skip rfl rfl rfl ?_
                refine WL_val rfl rfl rfl (R_pickT rfl rfl rfl) ?_
                refine WL_val rfl rfl rfl (R_assign rfl rfl) ?_
                refine WL_nil ?_
                refine WQ_code ?_
                refine WC_region ?_
                refine WL_val rfl rfl rfl (R_add rfl rfl rfl (by omega)) ?_
                refine WL_val rfl rfl rfl (R_move rfl rfl) ?_
                refine WL_nil ?_
                refine WQ_nextF (⟨u.j + 1, true⟩) (⟨by dsimp only; omega, by dsimp only; rw [take_get hx]; obtain ⟨v8, hv8, e8⟩ := hub.1 (by assumption); exact ⟨fun _ => ⟨v8, List.mem_append_left _ hv8, e8⟩, fun _ => rfl⟩⟩) (by dsimp only; omega) leZ (psZ) rfl (pqY)
              · refine WL_val rfl rfl rfl (R_move rfl rfl) ?_
                refine WL_val rfl rfl rfl (R_move rfl rfl) ?_
                refine WL_val rfl rfl rfl (R_eql rfl rfl rfl) ?_
                refine WL_val rfl rfl rfl (R_pickF rfl rfl rfl) ?_
                refine WL_val rfl rfl rfl (R_assign rfl rfl) ?_
                refine WL_nil ?_
                refine WQ_code ?_
                refine WC_region ?_
                refine WL_val rfl rfl rfl (R_add rfl rfl rfl (by omega)) ?_
                refine WL_val rfl rfl rfl (R_move rfl rfl) ?_
                refine WL_nil ?_
                refine WQ_nextF (⟨u.j + 1, decide (v9 = (j : Int))⟩) (⟨by dsimp only; omega, by dsimp only; rw [take_get hx, decide_eq_true_eq]; exact ⟨fun e8 => ⟨v9, List.mem_append_right _ (List.mem_singleton.2 rfl), e8⟩, fun ⟨v8, hv8, e8⟩ => (List.mem_append.1 hv8).elim (fun h8 => absurd (hub.2 ⟨v8, h8, e8⟩) (by simp_all)) (fun h8 => (List.mem_singleton.1 h8) ▸ e8)⟩⟩) (by dsimp only; omega) leZ (psZ) rfl (pqY)
            · rw [List.take_of_length_le (by omega)] at hub
              refine WC_exit ?_
              refine WQ_code ?_
              refine WC_seq ?_
              refine WC_region ?_
              obtain ⟨x9, hx9⟩ := exE (T := (y.s.step 1 0 a.task).sm) (i := j) (by omega)
              have hst9 := stR_in hx9
              have hin9 := in_state h2.ps hall2 hx9
              rw [hq2] at hin9
              have hb9 : u.b = decide (x9 = 2) := by rw [Bool.eq_iff_iff, hub, hin9]; simp
              refine WL_val rfl rfl rfl (R_move rfl rfl) ?_
              refine WL_val rfl rfl rfl (R_move rfl rfl) ?_
              refine WL_do rfl rfl rfl (D_call (pk_state (y.N + 1) (y.s.step 1 0 a.task) m2 h2 (j : Int)) rfl rfl rfl rfl (pqY)) ?_
              rintro _ _ ⟨_, ⟨rfl, rfl⟩, rfl⟩
              rw [hst9]
              refine WL_val rfl rfl rfl (R_move rfl rfl) ?_
              refine WL_val rfl rfl rfl (R_extract rfl rfl rfl) ?_
              refine WL_val rfl rfl rfl (R_extract rfl rfl rfl) ?_
              refine WL_val rfl rfl rfl (R_assign rfl rfl) ?_
              refine WL_val rfl rfl rfl (R_assign rfl rfl) ?_
              refine WL_nil ?_
              refine WQ_code ?_
              refine WC_seq ?_
              refine WC_region ?_
              refine WL_val rfl rfl rfl (R_move rfl rfl) ?_
              refine WL_val rfl rfl rfl (R_neq rfl rfl rfl) ?_
              refine WL_set (s := 226) (v := .bool false) rfl (by simp) ?_
              refine WL_val rfl rfl rfl (R_move rfl rfl) ?_
              refine WL_val rfl rfl rfl (R_move rfl rfl) ?_
              refine WL_val rfl rfl rfl (R_move rfl rfl) ?_
              refine WL_val rfl rfl rfl (R_eql rfl rfl rfl) ?_
              refine WL_val rfl rfl rfl (R_boolNe rfl Try.underlying4 rfl rfl) ?_
              refine WL_set (s := 231) (v := .bool false) rfl (by rw [hb9]; simp) ?_
              refine WL_val rfl rfl rfl (R_pickF rfl rfl rfl) ?_
              refine WL_nil ?_
              refine WQ_code ?_
              refine WC_F rfl ?_
              refine WC_skip ?_
              refine WQ_code ?_
              refine WC_region ?_
              refine WL_val rfl rfl rfl (R_move rfl rfl) ?_
              refine WL_val rfl rfl rfl (R_add rfl rfl rfl (by omega)) ?_
              refine WL_val rfl rfl rfl (R_assign rfl rfl) ?_
              refine WL_nil ?_
              refine WQ_nextF (j + 1) (by omega) (by omega) leZ (psZ) rfl (pqY)
          · refine WC_exit ?_
            refine WQ_code ?_
            refine WC_region ?_
            refine WL_val rfl rfl rfl (R_add rfl rfl rfl (by omega)) ?_
            refine WL_val rfl rfl rfl (R_move rfl rfl) ?_
            refine WL_nil ?_
            refine WQ_nextF (⟨y.k + 1, (y.N + 1), (y.s.step 1 0 a.task), m2, y.q, y.ob, y.kk, y.c, y.pre, y.tl⟩) (⟨by dsimp only; omega, h2, by dsimp only; omega, rfl, hall2, hq2, hyo, hsl2⟩) (by dsimp only; omega) leZ (psZ) rfl (pqY)
        · refine WL_skip rfl rfl rfl ?_
          refine WL_skip rfl rfl rfl ?_
          refine WL_skip rfl rfl rfl ?_
          refine WL_skip rfl rfl rfl ?_
          refine WL_skip rfl rfl rfl ?_
          refine WL_skip rfl rfl rfl ?_
          refine WL_skip rfl rfl rfl ?_
          refine WL_skip rfl rfl rfl ?_
          refine WL_skip rfl rfl rfl ?_
          refine WL_val rfl rfl rfl (R_pickF rfl rfl rfl) ?_
          refine WL_val rfl rfl rfl (R_pickF rfl rfl rfl) ?_
          refine WL_val rfl rfl rfl (R_move rfl rfl) ?_
          refine WL_val rfl rfl rfl (R_move rfl rfl) ?_
          refine WL_val rfl rfl rfl (R_loadA (vs := [_, _]) rfl ag25 rfl (mmY) rfl (atZ)) ?_
          refine WL_val rfl rfl rfl (R_move rfl rfl) ?_
          refine WL_do rfl rfl rfl (D_call (lwaits_okS (y.N + 1) (y.s.step 1 0 a.task) m2 h2 one hv1 y.q y.ob y.kk y.c y.pre y.tl hyo hw2) rfl rfl rfl rfl (pqY)) ?_
          rintro _ _ ⟨_, ⟨rfl, rfl⟩, rfl⟩
          refine WL_val rfl rfl rfl (R_not rfl rfl) ?_
          refine WL_val rfl rfl rfl (R_pickF rfl rfl rfl) ?_
          refine WL_nil ?_
          refine WQ_code ?_
          refine WC_F rfl ?_
          refine WC_skip ?_
          refine WQ_code ?_
          refine WC_seq ?_
          refine WC_region ?_
          refine WL_val rfl rfl rfl (R_assign rfl rfl) ?_
          refine WL_nil ?_
          refine WQ_code ?_
          refine WC_block ?_
          refine WC_loopF (G := Nat) [8,24,25,27,28,29,201,202,203,204,205,206,207,208,209,210,211,212,213,214,215,216,217,218,219,220,221,222,223,224,225,226,227,228,229,230,231,232] (fun j => j ≤ M) (fun j => [(24, .int .i64 (j : Int))]) (fun j => []) (fun j => M - j) (0) (Nat.zero_le _) leZ (pqY) ?_
          rintro j hj
          refine WC_seq ?_
          refine WC_seq ?_
          refine WC_region ?_
          refine WL_val rfl rfl rfl (R_move rfl rfl) ?_
          refine WL_val rfl rfl rfl (R_move rfl rfl) ?_
          refine WL_val rfl rfl rfl (R_lss rfl rfl rfl) ?_
          refine WL_nil ?_
          refine WQ_code ?_
          refine WC_dec rfl (fun c15 => ?_) (fun c15 => ?_)
          · refine WC_skip ?_
            refine WQ_code ?_
            refine WC_seq ?_
            refine WC_block ?_
            refine WC_seq ?_
            refine WC_region ?_
            refine WL_val rfl rfl rfl (R_assign rfl rfl) ?_
            refine WL_nil ?_
            refine WQ_code ?_
            refine WC_seq ?_
            refine WC_seq ?_
            refine WC_region ?_
            refine WL_val rfl rfl rfl (R_move rfl rfl) ?_
            refine WL_val rfl rfl rfl (R_len rfl Try.underlying32 rfl) ?_
            refine WL_val rfl rfl rfl (R_move rfl rfl) ?_
            refine WL_nil ?_
            refine WQ_code ?_
            refine WC_block ?_
            refine WC_loopF (G := InW9) [25,27,208,209,210,211,212,213,214,215,216,217,218] (fun u => u.j ≤ y.q.length ∧ (u.b = true ↔ ∃ v ∈ y.q.take u.j, v = (j : Int))) (fun u => [(208, .int .i64 (u.j : Int)), (25, .bool u.b)]) (fun u => []) (fun u => y.q.length - u.j) (⟨0, false⟩) (⟨Nat.zero_le _, by simp⟩) leZ (pqY) ?_
            rintro u ⟨huj, hub⟩
            refine WC_seq ?_
            refine WC_region ?_
            refine WL_val rfl rfl rfl (R_lss rfl rfl rfl) ?_
            refine WL_nil ?_
            refine WQ_code ?_
            refine WC_seq ?_
            refine WC_dec rfl (fun c16 => ?_) (fun c16 => ?_)
            · refine WC_skip ?_
              refine WQ_code ?_
              refine WC_seq ?_
              refine WC_block ?_
              refine WC_seq ?_
              refine WC_region ?_
              obtain ⟨v9, hx⟩ := exE (T := y.q) (i := u.j) (by omega)
              obtain ⟨wb, hwb⟩ := (hyo).some_of (by omega)
              refine WL_val rfl rfl rfl (R_indexS hwb rfl Try.underlying32 Try.sizeOf3 rfl rfl (by omega)) ?_
              refine WL_val rfl rfl rfl (R_loadO hwb rfl sc3 rfl (mmY) (hyo.get encI1 hx (by omega) (j := 0) (by omega))) ?_
              refine WL_val rfl rfl rfl (R_assign rfl rfl) ?_
              refine WL_nil ?_
              refine WQ_code ?_
              refine WC_region ?_
              refine WL_val rfl rfl rfl (R_move rfl rfl) ?_
              refine WL_val rfl rfl rfl (R_move rfl rfl) ?_
              refine WL_split (s := 213) rfl (fun c17 => ?_) (fun c17 => ?_)
              · refine WL_skip rfl rfl rfl ?_
                refine WL_skip rfl rfl rfl ?_
                refine WL_skip rfl rfl rfl ?_
                refine WL_val rfl rfl rfl (R_pickT rfl rfl rfl) ?_
                refine WL_val rfl rfl rfl (R_assign rfl rfl) ?_
                refine WL_nil ?_
                refine WQ_code ?_
                refine WC_region ?_
                refine WL_val rfl rfl rfl (R_add rfl rfl rfl (by omega)) ?_
                refine WL_val rfl rfl rfl (R_move rfl rfl) ?_
                refine WL_nil ?_
                refine WQ_nextF (⟨u.j + 1, true⟩) (⟨by dsimp only; omega, by dsimp only; rw [take_get hx]; obtain ⟨v8, hv8, e8⟩ := hub.1 (by assumption); exact ⟨fun _ => ⟨v8, List.mem_append_left _ hv8, e8⟩, fun _ => rfl⟩⟩) (by dsimp only; omega) leZ (psZ) rfl (pqY)
              · refine WL_val rfl rfl rfl (R_move rfl rfl) ?_
                refine WL_val rfl rfl rfl (R_move rfl rfl) ?_
                refine WL_val rfl rfl rfl (R_eql rfl rfl rfl) ?_
                refine WL_val rfl rfl rfl (R_pickF rfl rfl rfl) ?_
                refine WL_val rfl rfl rfl (R_assign rfl rfl) ?_
                refine WL_nil ?_
                refine WQ_code ?_
                refine WC_region ?_
                refine WL_val rfl rfl rfl (R_add rfl rfl rfl (by omega)) ?_
                refine WL_val rfl rfl rfl (R_move rfl rfl) ?_
                refine WL_nil ?_
                refine WQ_nextF (⟨u.j + 1, decide (v9 = (j : Int))⟩) (⟨by dsimp only; omega, by dsimp only; rw [take_get hx, decide_eq_true_eq]; exact ⟨fun e8 => ⟨v9, List.mem_append_right _ (List.mem_singleton.2 rfl), e8⟩, fun ⟨v8, hv8, e8⟩ => (List.mem_append.1 hv8).elim (fun h8 => absurd (hub.2 ⟨v8, h8, e8⟩) (by simp_all)) (fun h8 => (List.mem_singleton.1 h8) ▸ e8)⟩⟩) (by dsimp only; omega) leZ (psZ) rfl (pqY)
            · rw [List.take_of_length_le (by omega)] at hub
              refine WC_exit ?_
              refine WQ_code ?_
              refine WC_seq ?_
              refine WC_region ?_
              obtain ⟨x9, hx9⟩ := exE (T := (y.s.step 1 0 a.task).sm) (i := j) (by omega)
              have hst9 := stR_in hx9
              have hin9 := in_state h2.ps hall2 hx9
              rw [hq2] at hin9
              have hb9 : u.b = decide (x9 = 2) := by rw [Bool.eq_iff_iff, hub, hin9]; simp
              refine WL_val rfl rfl rfl (R_move rfl rfl) ?_
              refine WL_val rfl rfl rfl (R_move rfl rfl) ?_
              refine WL_do rfl rfl rfl (D_call (pk_state (y.N + 1) (y.s.step 1 0 a.task) m2 h2 (j : Int)) rfl rfl rfl rfl (pqY)) ?_
              rintro _ _ ⟨_, ⟨rfl, rfl⟩, rfl⟩
              rw [hst9]
              refine WL_val rfl rfl rfl (R_move rfl rfl) ?_
              refine WL_val rfl rfl rfl (R_extract rfl rfl rfl) ?_
              refine WL_val rfl rfl rfl (R_extract rfl rfl rfl) ?_
              refine WL_val rfl rfl rfl (R_assign rfl rfl) ?_
              refine WL_val rfl rfl rfl (R_assign rfl rfl) ?_
              refine WL_nil ?_
              refine WQ_code ?_
              refine WC_seq ?_
              refine WC_region ?_
              refine WL_val rfl rfl rfl (R_move rfl rfl) ?_
              refine WL_val rfl rfl rfl (R_neq rfl rfl rfl) ?_
              refine WL_set (s := 226) (v := .bool false) rfl (by simp) ?_
              refine WL_val rfl rfl rfl (R_move rfl rfl) ?_
              refine WL_val rfl rfl rfl (R_move rfl rfl) ?_
              refine WL_val rfl rfl rfl (R_move rfl rfl) ?_
              refine WL_val rfl rfl rfl (R_eql rfl rfl rfl) ?_
              refine WL_val rfl rfl rfl (R_boolNe rfl Try.underlying4 rfl rfl) ?_
              refine WL_set (s := 231) (v := .bool false) rfl (by rw [hb9]; simp) ?_
              refine WL_val rfl rfl rfl (R_pickF rfl rfl rfl) ?_
              refine WL_nil ?_
              refine WQ_code ?_
              refine WC_F rfl ?_
              refine WC_skip ?_
              refine WQ_code ?_
              refine WC_region ?_
              refine WL_val rfl rfl rfl (R_move rfl rfl) ?_
              refine WL_val rfl rfl rfl (R_add rfl rfl rfl (by omega)) ?_
              refine WL_val rfl rfl rfl (R_assign rfl rfl) ?_
              refine WL_nil ?_
              refine WQ_nextF (j + 1) (by omega) (by omega) leZ (psZ) rfl (pqY)
          · refine WC_exit ?_
            refine WQ_code ?_
            refine WC_region ?_
            refine WL_val rfl rfl rfl (R_add rfl rfl rfl (by omega)) ?_
            refine WL_val rfl rfl rfl (R_move rfl rfl) ?_
            refine WL_nil ?_
            refine WQ_nextF (⟨y.k + 1, (y.N + 1), (y.s.step 1 0 a.task), m2, y.q, y.ob, y.kk, y.c, y.pre, y.tl⟩) (⟨by dsimp only; omega, h2, by dsimp only; omega, rfl, hall2, hq2, hyo, hsl2⟩) (by dsimp only; omega) leZ (psZ) rfl (pqY)
      · refine WC_seq ?_
        refine WC_region ?_
        refine WL_val rfl rfl rfl (R_eql rfl rfl rfl) ?_
        refine WL_val rfl rfl rfl (R_assign rfl rfl) ?_
        refine WL_nil ?_
        refine WQ_code ?_
        refine WC_dec rfl (fun c18 => ?_) (fun c18 => ?_)
        · refine WC_region ?_
          refine WL_val rfl rfl rfl (R_move rfl rfl) ?_
          refine WL_val rfl rfl rfl (R_fieldAddr rfl fa48_1 rfl) ?_
          refine WL_val rfl rfl rfl (R_load rfl sc3 rfl (mmY) rfl) ?_
          refine WL_do rfl rfl rfl (D_call (pk_turn y.N y.s y.m hy (by omega) a.task) rfl rfl rfl rfl (pqY)) ?_
          rintro _ _ ⟨_, ⟨m2, rfl, rfl, hp2, h2⟩, rfl⟩
          rw [← hp2]
          refine WL_nil ?_
          refine WQ_code ?_
          refine WC_seq ?_
          refine WC_region ?_
          have hall2 : ∀ w0 ∈ (y.s.step 1 1 a.task).W, w0.at_ = one := hall
          have hq2 : wAt (y.s.step 1 1 a.task).W one = y.q := hq
          have hw2 : (y.s.step 1 1 a.task).waiting one = y.q := (waiting_v hv1).trans hq2
          have hql2 : y.q.length ≤ 64 := by rw [← hq2]; exact Nat.le_trans (wAt_len _ _) h2.ps.few
          have hsl2 : (y.s.step 1 1 a.task).sm.length = M := by rw [step_len]; exact hsl
          refine WL_val rfl rfl rfl (R_move rfl rfl) ?_
          refine WL_val rfl rfl rfl (R_loadA (vs := [_, _]) rfl ag25 rfl (mmY) rfl (atZ)) ?_
          refine WL_do rfl rfl rfl (D_call (pk_waiting (y.N + 1) (y.s.step 1 1 a.task) m2 h2 two) rfl rfl rfl rfl (pqY)) ?_
          rintro _ _ ⟨_, ⟨o2, c2, t2, rfl, own2, rfl⟩, rfl⟩
          refine WL_val rfl rfl rfl (R_move rfl rfl) ?_
          refine WL_val rfl rfl rfl (R_extract rfl rfl rfl) ?_
          refine WL_val rfl rfl rfl (R_extract rfl rfl rfl) ?_
          refine WL_val rfl rfl rfl (R_assign rfl rfl) ?_
          refine WL_val rfl rfl rfl (R_assign rfl rfl) ?_
          refine WL_nil ?_
          refine WQ_code ?_
          refine WC_seq ?_
          refine WC_seq ?_
          refine WC_region ?_
          refine WL_val rfl rfl rfl (R_move rfl rfl) ?_
          refine WL_val rfl rfl rfl (R_neq rfl rfl rfl) ?_
          refine WL_set (s := 177) (v := .bool false) rfl (by simp [hsp2]) ?_
          refine WL_val rfl rfl rfl (R_move rfl rfl) ?_
          refine WL_val rfl rfl rfl (R_loadA (vs := [_, _]) rfl ag25 rfl (mmY) rfl (atZ)) ?_
          refine WL_val rfl rfl rfl (R_loadA (vs := [_, _]) rfl ag25 rfl (mmY) rfl (atZ)) ?_
          refine WL_val rfl rfl rfl (R_sne25 rfl rfl rfl rfl) ?_
          refine WL_val rfl rfl rfl (R_move rfl rfl) ?_
          refine WL_splitD (s := 182) rfl (fun c19 => ?_) (fun c19 => ?_)
          · have hne : one ≠ two := fun e => c19 (by rw [e]; exact ⟨rfl, rfl⟩)
            have hwA : y.s.waiting two = [] := wait_none hall hne
            have hwB := wait_none hall2 hne
            rw [hwA] at own1
            rw [hwB] at own2
            rw [hwA]
            try rw [hwB]
            refine WL_val rfl rfl rfl (R_move rfl rfl) ?_
            refine WL_val rfl rfl rfl (R_len rfl Try.underlying32 rfl) ?_
            refine WL_val rfl rfl rfl (R_neq rfl rfl rfl) ?_
            refine WL_set (s := 185) (v := .bool false) rfl (by simp) ?_
            refine WL_val rfl rfl rfl (R_move rfl rfl) ?_
            refine WL_val rfl rfl rfl (R_move rfl rfl) ?_
            refine WL_val rfl rfl rfl (R_move rfl rfl) ?_
            refine WL_do rfl rfl rfl (D_call (same_ok [] (by decide) o1 c1 t1 o2 c2 t2 own1 own2) rfl rfl rfl rfl (pqY)) ?_
            rintro _ _ ⟨_, ⟨rfl, rfl⟩, rfl⟩
            refine WL_val rfl rfl rfl (R_not rfl rfl) ?_
            refine WL_val rfl rfl rfl (R_pickF rfl rfl rfl) ?_
            refine WL_val rfl rfl rfl (R_pickT rfl rfl rfl) ?_
            refine WL_val rfl rfl rfl (R_pickF rfl rfl rfl) ?_
            refine WL_val rfl rfl rfl (R_move rfl rfl) ?_
            refine WL_val rfl rfl rfl (R_move rfl rfl) ?_
            refine WL_val rfl rfl rfl (R_loadA (vs := [_, _]) rfl ag25 rfl (mmY) rfl (atZ)) ?_
            refine WL_val rfl rfl rfl (R_move rfl rfl) ?_
            refine WL_do rfl rfl rfl (D_call (lwaits_okS (y.N + 1) (y.s.step 1 1 a.task) m2 h2 one hv1 y.q y.ob y.kk y.c y.pre y.tl hyo hw2) rfl rfl rfl rfl (pqY)) ?_
            rintro _ _ ⟨_, ⟨rfl, rfl⟩, rfl⟩
            refine WL_val rfl rfl rfl (R_not rfl rfl) ?_
            refine WL_val rfl rfl rfl (R_pickF rfl rfl rfl) ?_
            refine WL_nil ?_
            refine WQ_code ?_
            refine WC_F rfl ?_
            refine WC_skip ?_
            refine WQ_code ?_
            refine WC_seq ?_
            refine WC_region ?_
            refine WL_val rfl rfl rfl (R_assign rfl rfl) ?_
            refine WL_nil ?_
            refine WQ_code ?_
            refine WC_block ?_
            refine WC_loopF (G := Nat) [8,24,25,27,28,29,201,202,203,204,205,206,207,208,209,210,211,212,213,214,215,216,217,218,219,220,221,222,223,224,225,226,227,228,229,230,231,232] (fun j => j ≤ M) (fun j => [(24, .int .i64 (j : Int))]) (fun j => []) (fun j => M - j) (0) (Nat.zero_le _) leZ (pqY) ?_
            rintro j hj
            refine WC_seq ?_
            refine WC_seq ?_
            refine WC_region ?_
            refine WL_val rfl rfl rfl (R_move rfl rfl) ?_
            refine WL_val rfl rfl rfl (R_move rfl rfl) ?_
            refine WL_val rfl rfl rfl (R_lss rfl rfl rfl) ?_
            refine WL_nil ?_
            refine WQ_code ?_
            refine WC_dec rfl (fun c20 => ?_) (fun c20 => ?_)
            · refine WC_skip ?_
              refine WQ_code ?_
              refine WC_seq ?_
              refine WC_block ?_
              refine WC_seq ?_
              refine WC_region ?_
              refine WL_val rfl rfl rfl (R_assign rfl rfl) ?_
              refine WL_nil ?_
              refine WQ_code ?_
              refine WC_seq ?_
              refine WC_seq ?_
              refine WC_region ?_
              refine WL_val rfl rfl rfl (R_move rfl rfl) ?_
              refine WL_val rfl rfl rfl (R_len rfl Try.underlying32 rfl) ?_
              refine WL_val rfl rfl rfl (R_move rfl rfl) ?_
              refine WL_nil ?_
              refine WQ_code ?_
              refine WC_block ?_
              refine WC_loopF (G := InW9) [25,27,208,209,210,211,212,213,214,215,216,217,218] (fun u => u.j ≤ y.q.length ∧ (u.b = true ↔ ∃ v ∈ y.q.take u.j, v = (j : Int))) (fun u => [(208, .int .i64 (u.j : Int)), (25, .bool u.b)]) (fun u => []) (fun u => y.q.length - u.j) (⟨0, false⟩) (⟨Nat.zero_le _, by simp⟩) leZ (pqY) ?_
              rintro u ⟨huj, hub⟩
              refine WC_seq ?_
              refine WC_region ?_
              refine WL_val rfl rfl rfl (R_lss rfl rfl rfl) ?_
              refine WL_nil ?_
              refine WQ_code ?_
              refine WC_seq ?_
              refine WC_dec rfl (fun c21 => ?_) (fun c21 => ?_)
              · refine WC_skip ?_
                refine WQ_code ?_
                refine WC_seq ?_
                refine WC_block ?_
                refine WC_seq ?_
                refine WC_region ?_
                obtain ⟨v9, hx⟩ := exE (T := y.q) (i := u.j) (by omega)
                obtain ⟨wb, hwb⟩ := (hyo).some_of (by omega)
                refine WL_val rfl rfl rfl (R_indexS hwb rfl Try.underlying32 Try.sizeOf3 rfl rfl (by omega)) ?_
                refine WL_val rfl rfl rfl (R_loadO hwb rfl sc3 rfl (mmY) (hyo.get encI1 hx (by omega) (j := 0) (by omega))) ?_
                refine WL_val rfl rfl rfl (R_assign rfl rfl) ?_
                refine WL_nil ?_
                refine WQ_code ?_
                refine WC_region ?_
                refine WL_val rfl rfl rfl (R_move rfl rfl) ?_
                refine WL_val rfl rfl rfl (R_move rfl rfl) ?_
                refine WL_split (s := 213) rfl (fun c22 => ?_) (fun c22 => ?_)
                · refine WL_skip rfl rfl rfl ?_
                  refine WL_skip rfl rfl rfl ?_
                  refine WL_skip rfl rfl rfl ?_
                  refine WL_val rfl rfl rfl (R_pickT rfl rfl rfl) ?_
                  refine WL_val rfl rfl rfl (R_assign rfl rfl) ?_
                  refine WL_nil ?_
                  refine WQ_code ?_
                  refine WC_region ?_
                  refine WL_val rfl rfl rfl (R_add rfl rfl rfl (by omega)) ?_
                  refine WL_val rfl rfl rfl (R_move rfl rfl) ?_
                  refine WL_nil ?_
                  refine WQ_nextF (⟨u.j + 1, true⟩) (⟨by dsimp only; omega, by dsimp only; rw [take_get hx]; obtain ⟨v8, hv8, e8⟩ := hub.1 (by assumption); exact ⟨fun _ => ⟨v8, List.mem_append_left _ hv8, e8⟩, fun _ => rfl⟩⟩) (by dsimp only; omega) leZ (psZ) rfl (pqY)
                · refine WL_val rfl rfl rfl (R_move rfl rfl) ?_
                  refine WL_val rfl rfl rfl (R_move rfl rfl) ?_
                  refine WL_val rfl rfl rfl (R_eql rfl rfl rfl) ?_
                  refine WL_val rfl rfl rfl (R_pickF rfl rfl rfl) ?_
                  refine WL_val rfl rfl rfl (R_assign rfl rfl) ?_
                  refine WL_nil ?_
                  refine WQ_code ?_
                  refine WC_region ?_
                  refine WL_val rfl rfl rfl (R_add rfl rfl rfl (by omega)) ?_
                  refine WL_val rfl rfl rfl (R_move rfl rfl) ?_
                  refine WL_nil ?_
                  refine WQ_nextF (⟨u.j + 1, decide (v9 = (j : Int))⟩) (⟨by dsimp only; omega, by dsimp only; rw [take_get hx, decide_eq_true_eq]; exact ⟨fun e8 => ⟨v9, List.mem_append_right _ (List.mem_singleton.2 rfl), e8⟩, fun ⟨v8, hv8, e8⟩ => (List.mem_append.1 hv8).elim (fun h8 => absurd (hub.2 ⟨v8, h8, e8⟩) (by simp_all)) (fun h8 => (List.mem_singleton.1 h8) ▸ e8)⟩⟩) (by dsimp only; omega) leZ (psZ) rfl (pqY)
              · rw [List.take_of_length_le (by omega)] at hub
                refine WC_exit ?_
                refine WQ_code ?_
                refine WC_seq ?_
                refine WC_region ?_
                obtain ⟨x9, hx9⟩ := exE (T := (y.s.step 1 1 a.task).sm) (i := j) (by omega)
                have hst9 := stR_in hx9
                have hin9 := in_state h2.ps hall2 hx9
                rw [hq2] at hin9
                have hb9 : u.b = decide (x9 = 2) := by rw [Bool.eq_iff_iff, hub, hin9]; simp
                refine WL_val rfl rfl rfl (R_move rfl rfl) ?_
                refine WL_val rfl rfl rfl (R_move rfl rfl) ?_
                refine WL_do rfl rfl rfl (D_call (pk_state (y.N + 1) (y.s.step 1 1 a.task) m2 h2 (j : Int)) rfl rfl rfl rfl (pqY)) ?_
                rintro _ _ ⟨_, ⟨rfl, rfl⟩, rfl⟩
                rw [hst9]
                refine WL_val rfl rfl rfl (R_move rfl rfl) ?_
                refine WL_val rfl rfl rfl (R_extract rfl rfl rfl) ?_
                refine WL_val rfl rfl rfl (R_extract rfl rfl rfl) ?_
                refine WL_val rfl rfl rfl (R_assign rfl rfl) ?_
                refine WL_val rfl rfl rfl (R_assign rfl rfl) ?_
                refine WL_nil ?_
                refine WQ_code ?_
                refine WC_seq ?_
                refine WC_region ?_
                refine WL_val rfl rfl rfl (R_move rfl rfl) ?_
                refine WL_val rfl rfl rfl (R_neq rfl rfl rfl) ?_
                refine WL_set (s := 226) (v := .bool false) rfl (by simp) ?_
                refine WL_val rfl rfl rfl (R_move rfl rfl) ?_
                refine WL_val rfl rfl rfl (R_move rfl rfl) ?_
                refine WL_val rfl rfl rfl (R_move rfl rfl) ?_
                refine WL_val rfl rfl rfl (R_eql rfl rfl rfl) ?_
                refine WL_val rfl rfl rfl (R_boolNe rfl Try.underlying4 rfl rfl) ?_
                refine WL_set (s := 231) (v := .bool false) rfl (by rw [hb9]; simp) ?_
                refine WL_val rfl rfl rfl (R_pickF rfl rfl rfl) ?_
                refine WL_nil ?_
                refine WQ_code ?_
                refine WC_F rfl ?_
                refine WC_skip ?_
                refine WQ_code ?_
                refine WC_region ?_
                refine WL_val rfl rfl rfl (R_move rfl rfl) ?_
                refine WL_val rfl rfl rfl (R_add rfl rfl rfl (by omega)) ?_
                refine WL_val rfl rfl rfl (R_assign rfl rfl) ?_
                refine WL_nil ?_
                refine WQ_nextF (j + 1) (by omega) (by omega) leZ (psZ) rfl (pqY)
            · refine WC_exit ?_
              refine WQ_code ?_
              refine WC_region ?_
              refine WL_val rfl rfl rfl (R_add rfl rfl rfl (by omega)) ?_
              refine WL_val rfl rfl rfl (R_move rfl rfl) ?_
              refine WL_nil ?_
              refine WQ_nextF (⟨y.k + 1, (y.N + 1), (y.s.step 1 1 a.task), m2, y.q, y.ob, y.kk, y.c, y.pre, y.tl⟩) (⟨by dsimp only; omega, h2, by dsimp only; omega, rfl, hall2, hq2, hyo, hsl2⟩) (by dsimp only; omega) leZ (psZ) rfl (pqY)
          · refine WL_skip rfl rfl rfl ?_
            refine WL_skip rfl rfl rfl ?_
            refine WL_skip rfl rfl rfl ?_
            refine WL_skip rfl rfl rfl ?_
            refine WL_skip rfl rfl rfl ?_
            refine WL_skip rfl rfl rfl ?_
            refine WL_skip rfl rfl rfl ?_
            refine WL_skip rfl rfl rfl ?_
            refine WL_skip rfl rfl rfl ?_
            refine WL_val rfl rfl rfl (R_pickF rfl rfl rfl) ?_
            refine WL_val rfl rfl rfl (R_pickF rfl rfl rfl) ?_
            refine WL_val rfl rfl rfl (R_move rfl rfl) ?_
            refine WL_val rfl rfl rfl (R_move rfl rfl) ?_
            refine WL_val rfl rfl rfl (R_loadA (vs := [_, _]) rfl ag25 rfl (mmY) rfl (atZ)) ?_
            refine WL_val rfl rfl rfl (R_move rfl rfl) ?_
            refine WL_do rfl rfl rfl (D_call (lwaits_okS (y.N + 1) (y.s.step 1 1 a.task) m2 h2 one hv1 y.q y.ob y.kk y.c y.pre y.tl hyo hw2) rfl rfl rfl rfl (pqY)) ?_
            rintro _ _ ⟨_, ⟨rfl, rfl⟩, rfl⟩
            refine WL_val rfl rfl rfl (R_not rfl rfl) ?_
            refine WL_val rfl rfl rfl (R_pickF rfl rfl rfl) ?_
            refine WL_nil ?_
            refine WQ_code ?_
            refine WC_F rfl ?_
            refine WC_skip ?_
            refine WQ_code ?_
            refine WC_seq ?_
            refine WC_region ?_
            refine WL_val rfl rfl rfl (R_assign rfl rfl) ?_
            refine WL_nil ?_
            refine WQ_code ?_
            refine WC_block ?_
            refine WC_loopF (G := Nat) [8,24,25,27,28,29,201,202,203,204,205,206,207,208,209,210,211,212,213,214,215,216,217,218,219,220,221,222,223,224,225,226,227,228,229,230,231,232] (fun j => j ≤ M) (fun j => [(24, .int .i64 (j : Int))]) (fun j => []) (fun j => M - j) (0) (Nat.zero_le _) leZ (pqY) ?_
            rintro j hj
            refine WC_seq ?_
            refine WC_seq ?_
            refine WC_region ?_
            refine WL_val rfl rfl rfl (R_move rfl rfl) ?_
            refine WL_val rfl rfl rfl (R_move rfl rfl) ?_
            refine WL_val rfl rfl rfl (R_lss rfl rfl rfl) ?_
            refine WL_nil ?_
            refine WQ_code ?_
            refine WC_dec rfl (fun c23 => ?_) (fun c23 => ?_)
            · refine WC_skip ?_
              refine WQ_code ?_
              refine WC_seq ?_
              refine WC_block ?_
              refine WC_seq ?_
              refine WC_region ?_
              refine WL_val rfl rfl rfl (R_assign rfl rfl) ?_
              refine WL_nil ?_
              refine WQ_code ?_
              refine WC_seq ?_
              refine WC_seq ?_
              refine WC_region ?_
              refine WL_val rfl rfl rfl (R_move rfl rfl) ?_
              refine WL_val rfl rfl rfl (R_len rfl Try.underlying32 rfl) ?_
              refine WL_val rfl rfl rfl (R_move rfl rfl) ?_
              refine WL_nil ?_
              refine WQ_code ?_
              refine WC_block ?_
              refine WC_loopF (G := InW9) [25,27,208,209,210,211,212,213,214,215,216,217,218] (fun u => u.j ≤ y.q.length ∧ (u.b = true ↔ ∃ v ∈ y.q.take u.j, v = (j : Int))) (fun u => [(208, .int .i64 (u.j : Int)), (25, .bool u.b)]) (fun u => []) (fun u => y.q.length - u.j) (⟨0, false⟩) (⟨Nat.zero_le _, by simp⟩) leZ (pqY) ?_
              rintro u ⟨huj, hub⟩
              refine WC_seq ?_
              refine WC_region ?_
              refine WL_val rfl rfl rfl (R_lss rfl rfl rfl) ?_
              refine WL_nil ?_
              refine WQ_code ?_
              refine WC_seq ?_
              refine WC_dec rfl (fun c24 => ?_) (fun c24 => ?_)
              · refine WC_skip ?_
                refine WQ_code ?_
                refine WC_seq ?_
                refine WC_block ?_
                refine WC_seq ?_
                refine WC_region ?_
                obtain ⟨v9, hx⟩ := exE (T := y.q) (i := u.j) (by omega)
                obtain ⟨wb, hwb⟩ := (hyo).some_of (by omega)
                refine WL_val rfl rfl rfl (R_indexS hwb rfl Try.underlying32 Try.sizeOf3 rfl rfl (by omega)) ?_
                refine WL_val rfl rfl rfl (R_loadO hwb rfl sc3 rfl (mmY) (hyo.get encI1 hx (by omega) (j := 0) (by omega))) ?_
                refine WL_val rfl rfl rfl (R_assign rfl rfl) ?_
                refine WL_nil ?_
                refine WQ_code ?_
                refine WC_region ?_
                refine WL_val rfl rfl rfl (R_move rfl rfl) ?_
                refine WL_val rfl rfl rfl (R_move rfl rfl) ?_
                refine WL_split (s := 213) rfl (fun c25 => ?_) (fun c25 => ?_)
                · refine WL_skip rfl rfl rfl ?_
                  refine WL_skip rfl rfl rfl ?_
                  refine WL_skip rfl rfl rfl ?_
                  refine WL_val rfl rfl rfl (R_pickT rfl rfl rfl) ?_
                  refine WL_val rfl rfl rfl (R_assign rfl rfl) ?_
                  refine WL_nil ?_
                  refine WQ_code ?_
                  refine WC_region ?_
                  refine WL_val rfl rfl rfl (R_add rfl rfl rfl (by omega)) ?_
                  refine WL_val rfl rfl rfl (R_move rfl rfl) ?_
                  refine WL_nil ?_
                  refine WQ_nextF (⟨u.j + 1, true⟩) (⟨by dsimp only; omega, by dsimp only; rw [take_get hx]; obtain ⟨v8, hv8, e8⟩ := hub.1 (by assumption); exact ⟨fun _ => ⟨v8, List.mem_append_left _ hv8, e8⟩, fun _ => rfl⟩⟩) (by dsimp only; omega) leZ (psZ) rfl (pqY)
                · refine WL_val rfl rfl rfl (R_move rfl rfl) ?_
                  refine WL_val rfl rfl rfl (R_move rfl rfl) ?_
                  refine WL_val rfl rfl rfl (R_eql rfl rfl rfl) ?_
                  refine WL_val rfl rfl rfl (R_pickF rfl rfl rfl) ?_
                  refine WL_val rfl rfl rfl (R_assign rfl rfl) ?_
                  refine WL_nil ?_
                  refine WQ_code ?_
                  refine WC_region ?_
                  refine WL_val rfl rfl rfl (R_add rfl rfl rfl (by omega)) ?_
                  refine WL_val rfl rfl rfl (R_move rfl rfl) ?_
                  refine WL_nil ?_
                  refine WQ_nextF (⟨u.j + 1, decide (v9 = (j : Int))⟩) (⟨by dsimp only; omega, by dsimp only; rw [take_get hx, decide_eq_true_eq]; exact ⟨fun e8 => ⟨v9, List.mem_append_right _ (List.mem_singleton.2 rfl), e8⟩, fun ⟨v8, hv8, e8⟩ => (List.mem_append.1 hv8).elim (fun h8 => absurd (hub.2 ⟨v8, h8, e8⟩) (by simp_all)) (fun h8 => (List.mem_singleton.1 h8) ▸ e8)⟩⟩) (by dsimp only; omega) leZ (psZ) rfl (pqY)
              · rw [List.take_of_length_le (by omega)] at hub
                refine WC_exit ?_
                refine WQ_code ?_
                refine WC_seq ?_
                refine WC_region ?_
                obtain ⟨x9, hx9⟩ := exE (T := (y.s.step 1 1 a.task).sm) (i := j) (by omega)
                have hst9 := stR_in hx9
                have hin9 := in_state h2.ps hall2 hx9
                rw [hq2] at hin9
                have hb9 : u.b = decide (x9 = 2) := by rw [Bool.eq_iff_iff, hub, hin9]; simp
                refine WL_val rfl rfl rfl (R_move rfl rfl) ?_
                refine WL_val rfl rfl rfl (R_move rfl rfl) ?_
                refine WL_do rfl rfl rfl (D_call (pk_state (y.N + 1) (y.s.step 1 1 a.task) m2 h2 (j : Int)) rfl rfl rfl rfl (pqY)) ?_
                rintro _ _ ⟨_, ⟨rfl, rfl⟩, rfl⟩
                rw [hst9]
                refine WL_val rfl rfl rfl (R_move rfl rfl) ?_
                refine WL_val rfl rfl rfl (R_extract rfl rfl rfl) ?_
                refine WL_val rfl rfl rfl (R_extract rfl rfl rfl) ?_
                refine WL_val rfl rfl rfl (R_assign rfl rfl) ?_
                refine WL_val rfl rfl rfl (R_assign rfl rfl) ?_
                refine WL_nil ?_
                refine WQ_code ?_
                refine WC_seq ?_
                refine WC_region ?_
                refine WL_val rfl rfl rfl (R_move rfl rfl) ?_
                refine WL_val rfl rfl rfl (R_neq rfl rfl rfl) ?_
                refine WL_set (s := 226) (v := .bool false) rfl (by simp) ?_
                refine WL_val rfl rfl rfl (R_move rfl rfl) ?_
                refine WL_val rfl rfl rfl (R_move rfl rfl) ?_
                refine WL_val rfl rfl rfl (R_move rfl rfl) ?_
                refine WL_val rfl rfl rfl (R_eql rfl rfl rfl) ?_
                refine WL_val rfl rfl rfl (R_boolNe rfl Try.underlying4 rfl rfl) ?_
                refine WL_set (s := 231) (v := .bool false) rfl (by rw [hb9]; simp) ?_
                refine WL_val rfl rfl rfl (R_pickF rfl rfl rfl) ?_
                refine WL_nil ?_
                refine WQ_code ?_
                refine WC_F rfl ?_
                refine WC_skip ?_
                refine WQ_code ?_
                refine WC_region ?_
                refine WL_val rfl rfl rfl (R_move rfl rfl) ?_
                refine WL_val rfl rfl rfl (R_add rfl rfl rfl (by omega)) ?_
                refine WL_val rfl rfl rfl (R_assign rfl rfl) ?_
                refine WL_nil ?_
                refine WQ_nextF (j + 1) (by omega) (by omega) leZ (psZ) rfl (pqY)
            · refine WC_exit ?_
              refine WQ_code ?_
              refine WC_region ?_
              refine WL_val rfl rfl rfl (R_add rfl rfl rfl (by omega)) ?_
              refine WL_val rfl rfl rfl (R_move rfl rfl) ?_
              refine WL_nil ?_
              refine WQ_nextF (⟨y.k + 1, (y.N + 1), (y.s.step 1 1 a.task), m2, y.q, y.ob, y.kk, y.c, y.pre, y.tl⟩) (⟨by dsimp only; omega, h2, by dsimp only; omega, rfl, hall2, hq2, hyo, hsl2⟩) (by dsimp only; omega) leZ (psZ) rfl (pqY)
        · refine WC_seq ?_
          refine WC_region ?_
          refine WL_val rfl rfl rfl (R_eql rfl rfl rfl) ?_
          refine WL_val rfl rfl rfl (R_assign rfl rfl) ?_
          refine WL_nil ?_
          refine WQ_code ?_
          refine WC_dec rfl (fun c26 => ?_) (fun c26 => ?_)
          · refine WC_seq ?_
            refine WC_region ?_
            refine WL_val rfl rfl rfl (R_move rfl rfl) ?_
            refine WL_val rfl rfl rfl (R_fieldAddr rfl fa48_1 rfl) ?_
            refine WL_val rfl rfl rfl (R_load rfl sc3 rfl (mmY) rfl) ?_
            refine WL_val rfl rfl rfl (R_loadA (vs := [_, _]) rfl ag25 rfl (mmY) rfl (atZ)) ?_
            refine WL_do rfl rfl rfl (D_call (pk_park y.N y.s y.m hy (by omega) a.task one) rfl rfl rfl rfl (pqY)) ?_
            rintro _ _ ⟨_, ⟨m2, rfl, rfl, hp2, h2⟩, rfl⟩
            rw [← hp2]
            refine WL_val rfl rfl rfl (R_eql rfl rfl rfl) ?_
            refine WL_nil ?_
            refine WQ_code ?_
            refine WC_dec rfl (fun c27 => ?_) (fun c27 => ?_)
            · obtain ⟨jp, hpi, hpw⟩ := park_W (s := y.s) (i := a.task) (a := one) c27
              refine WC_region ?_
              refine WL_val rfl rfl rfl (R_move rfl rfl) ?_
              refine WL_val rfl rfl rfl (R_fieldAddr rfl fa48_1 rfl) ?_
              refine WL_val rfl rfl rfl (R_load rfl sc3 rfl (mmY) rfl) ?_
              refine WL_do rfl rfl rfl (D_buildSlice rfl si32 rfl rfl rfl) ?_
              rintro _ _ ⟨b4, rfl, rfl⟩
              refine WL_do rfl rfl rfl (D_appendS rfl si32 rfl hyo (plY) rfl (mmY) (atZ : At _ 0 [_]) rfl rfl (by decide) (by omega) (by omega)) ?_
              rintro _ _ ⟨obS, kS, cS, preS, tlS, rfl, ownS, rfl⟩
              rw [show ivs y.q ++ [Value.int .i64 a.task] = ivs (y.q ++ [a.task]) from by simp, show y.q.length + 1 = (y.q ++ [a.task]).length from by simp] at *
              refine WL_val rfl rfl rfl (R_assign rfl rfl) ?_
              refine WL_nil ?_
              refine WQ_code ?_
              refine WC_seq ?_
              refine WC_region ?_
              have hall2 : ∀ w0 ∈ (y.s.park a.task one).W, w0.at_ = one := fun z hz => by rw [hpw] at hz; rcases List.mem_append.1 hz with hz | hz; exact hall z hz; (rw [List.mem_singleton] at hz; rw [hz])
              have hq2 : wAt (y.s.park a.task one).W one = (y.q ++ [a.task]) := by rw [hpw, wAt_snoc, if_pos rfl, hq, hpi]
              have hw2 : (y.s.park a.task one).waiting one = (y.q ++ [a.task]) := (waiting_v hv1).trans hq2
              have hql2 : (y.q ++ [a.task]).length ≤ 64 := by rw [← hq2]; exact Nat.le_trans (wAt_len _ _) h2.ps.few
              have hsl2 : (y.s.park a.task one).sm.length = M := by rw [park_len]; exact hsl
              refine WL_val rfl rfl rfl (R_move rfl rfl) ?_
              refine WL_val rfl rfl rfl (R_loadA (vs := [_, _]) rfl ag25 rfl (mmY) rfl (atZ)) ?_
              refine WL_do rfl rfl rfl (D_call (pk_waiting (y.N + 1) (y.s.park a.task one) m2 h2 two) rfl rfl rfl rfl (pqY)) ?_
              rintro _ _ ⟨_, ⟨o2, c2, t2, rfl, own2, rfl⟩, rfl⟩
              refine WL_val rfl rfl rfl (R_move rfl rfl) ?_
              refine WL_val rfl rfl rfl (R_extract rfl rfl rfl) ?_
              refine WL_val rfl rfl rfl (R_extract rfl rfl rfl) ?_
              refine WL_val rfl rfl rfl (R_assign rfl rfl) ?_
              refine WL_val rfl rfl rfl (R_assign rfl rfl) ?_
              refine WL_nil ?_
              refine WQ_code ?_
              refine WC_seq ?_
              refine WC_seq ?_
              refine WC_region ?_
              refine WL_val rfl rfl rfl (R_move rfl rfl) ?_
              refine WL_val rfl rfl rfl (R_neq rfl rfl rfl) ?_
              refine WL_set (s := 177) (v := .bool false) rfl (by simp [hsp2]) ?_
              refine WL_val rfl rfl rfl (R_move rfl rfl) ?_
              refine WL_val rfl rfl rfl (R_loadA (vs := [_, _]) rfl ag25 rfl (mmY) rfl (atZ)) ?_
              refine WL_val rfl rfl rfl (R_loadA (vs := [_, _]) rfl ag25 rfl (mmY) rfl (atZ)) ?_
              refine WL_val rfl rfl rfl (R_sne25 rfl rfl rfl rfl) ?_
              refine WL_val rfl rfl rfl (R_move rfl rfl) ?_
              refine WL_splitD (s := 182) rfl (fun c28 => ?_) (fun c28 => ?_)
              · have hne : one ≠ two := fun e => c28 (by rw [e]; exact ⟨rfl, rfl⟩)
                have hwA : y.s.waiting two = [] := wait_none hall hne
                have hwB := wait_none hall2 hne
                rw [hwA] at own1
                rw [hwB] at own2
                rw [hwA]
                try rw [hwB]
                refine WL_val rfl rfl rfl (R_move rfl rfl) ?_
                refine WL_val rfl rfl rfl (R_len rfl Try.underlying32 rfl) ?_
                refine WL_val rfl rfl rfl (R_neq rfl rfl rfl) ?_
                refine WL_set (s := 185) (v := .bool false) rfl (by simp) ?_
                refine WL_val rfl rfl rfl (R_move rfl rfl) ?_
                refine WL_val rfl rfl rfl (R_move rfl rfl) ?_
                refine WL_val rfl rfl rfl (R_move rfl rfl) ?_
                refine WL_do rfl rfl rfl (D_call (same_ok [] (by decide) o1 c1 t1 o2 c2 t2 own1 own2) rfl rfl rfl rfl (pqY)) ?_
                rintro _ _ ⟨_, ⟨rfl, rfl⟩, rfl⟩
                refine WL_val rfl rfl rfl (R_not rfl rfl) ?_
                refine WL_val rfl rfl rfl (R_pickF rfl rfl rfl) ?_
                refine WL_val rfl rfl rfl (R_pickT rfl rfl rfl) ?_
                refine WL_val rfl rfl rfl (R_pickF rfl rfl rfl) ?_
                refine WL_val rfl rfl rfl (R_move rfl rfl) ?_
                refine WL_val rfl rfl rfl (R_move rfl rfl) ?_
                refine WL_val rfl rfl rfl (R_loadA (vs := [_, _]) rfl ag25 rfl (mmY) rfl (atZ)) ?_
                refine WL_val rfl rfl rfl (R_move rfl rfl) ?_
                refine WL_do rfl rfl rfl (D_call (lwaits_okS (y.N + 1) (y.s.park a.task one) m2 h2 one hv1 (y.q ++ [a.task]) obS kS cS preS tlS ownS hw2) rfl rfl rfl rfl (pqY)) ?_
                rintro _ _ ⟨_, ⟨rfl, rfl⟩, rfl⟩
                refine WL_val rfl rfl rfl (R_not rfl rfl) ?_
                refine WL_val rfl rfl rfl (R_pickF rfl rfl rfl) ?_
                refine WL_nil ?_
                refine WQ_code ?_
                refine WC_F rfl ?_
                refine WC_skip ?_
                refine WQ_code ?_
                refine WC_seq ?_
                refine WC_region ?_
                refine WL_val rfl rfl rfl (R_assign rfl rfl) ?_
                refine WL_nil ?_
                refine WQ_code ?_
                refine WC_block ?_
                refine WC_loopF (G := Nat) [8,24,25,27,28,29,201,202,203,204,205,206,207,208,209,210,211,212,213,214,215,216,217,218,219,220,221,222,223,224,225,226,227,228,229,230,231,232] (fun j => j ≤ M) (fun j => [(24, .int .i64 (j : Int))]) (fun j => []) (fun j => M - j) (0) (Nat.zero_le _) leZ (pqY) ?_
                rintro j hj
                refine WC_seq ?_
                refine WC_seq ?_
                refine WC_region ?_
                refine WL_val rfl rfl rfl (R_move rfl rfl) ?_
                refine WL_val rfl rfl rfl (R_move rfl rfl) ?_
                refine WL_val rfl rfl rfl (R_lss rfl rfl rfl) ?_
                refine WL_nil ?_
                refine WQ_code ?_
                refine WC_dec rfl (fun c29 => ?_) (fun c29 => ?_)
                · refine WC_skip ?_
                  refine WQ_code ?_
                  refine WC_seq ?_
                  refine WC_block ?_
                  refine WC_seq ?_
                  refine WC_region ?_
                  refine WL_val rfl rfl rfl (R_assign rfl rfl) ?_
                  refine WL_nil ?_
                  refine WQ_code ?_
                  refine WC_seq ?_
                  refine WC_seq ?_
                  refine WC_region ?_
                  refine WL_val rfl rfl rfl (R_move rfl rfl) ?_
                  refine WL_val rfl rfl rfl (R_len rfl Try.underlying32 rfl) ?_
                  refine WL_val rfl rfl rfl (R_move rfl rfl) ?_
                  refine WL_nil ?_
                  refine WQ_code ?_
                  refine WC_block ?_
                  refine WC_loopF (G := InW9) [25,27,208,209,210,211,212,213,214,215,216,217,218] (fun u => u.j ≤ (y.q ++ [a.task]).length ∧ (u.b = true ↔ ∃ v ∈ (y.q ++ [a.task]).take u.j, v = (j : Int))) (fun u => [(208, .int .i64 (u.j : Int)), (25, .bool u.b)]) (fun u => []) (fun u => (y.q ++ [a.task]).length - u.j) (⟨0, false⟩) (⟨Nat.zero_le _, by simp⟩) leZ (pqY) ?_
                  rintro u ⟨huj, hub⟩
                  refine WC_seq ?_
                  refine WC_region ?_
                  refine WL_val rfl rfl rfl (R_lss rfl rfl rfl) ?_
                  refine WL_nil ?_
                  refine WQ_code ?_
                  refine WC_seq ?_
                  refine WC_dec rfl (fun c30 => ?_) (fun c30 => ?_)
                  · refine WC_skip ?_
                    refine WQ_code ?_
                    refine WC_seq ?_
                    refine WC_block ?_
                    refine WC_seq ?_
                    refine WC_region ?_
                    obtain ⟨v9, hx⟩ := exE (T := (y.q ++ [a.task])) (i := u.j) (by omega)
                    obtain ⟨wb, hwb⟩ := (ownS).some_of (by omega)
                    refine WL_val rfl rfl rfl (R_indexS hwb rfl Try.underlying32 Try.sizeOf3 rfl rfl (by omega)) ?_
                    refine WL_val rfl rfl rfl (R_loadO hwb rfl sc3 rfl (mmY) (ownS.get encI1 hx (by omega) (j := 0) (by omega))) ?_
                    refine WL_val rfl rfl rfl (R_assign rfl rfl) ?_
                    refine WL_nil ?_
                    refine WQ_code ?_
                    refine WC_region ?_
                    refine WL_val rfl rfl rfl (R_move rfl rfl) ?_
                    refine WL_val rfl rfl rfl (R_move rfl rfl) ?_
                    refine WL_split (s := 213) rfl (fun c31 => ?_) (fun c31 => ?_)
                    · refine WL_skip rfl rfl rfl ?_
                      refine WL_skip rfl rfl rfl ?_
                      refine WL_skip rfl rfl rfl ?_
                      refine WL_val rfl rfl rfl (R_pickT rfl rfl rfl) ?_
                      refine WL_val rfl rfl rfl (R_assign rfl rfl) ?_
                      refine WL_nil ?_
                      refine WQ_code ?_
                      refine WC_region ?_
                      refine WL_val rfl rfl rfl (R_add rfl rfl rfl (by omega)) ?_
                      refine WL_val rfl rfl rfl (R_move rfl rfl) ?_
                      refine WL_nil ?_
                      refine WQ_nextF (⟨u.j + 1, true⟩) (⟨by dsimp only; omega, by dsimp only; rw [take_get hx]; obtain ⟨v8, hv8, e8⟩ := hub.1 (by assumption); exact ⟨fun _ => ⟨v8, List.mem_append_left _ hv8, e8⟩, fun _ => rfl⟩⟩) (by dsimp only; omega) leZ (psZ) rfl (pqY)
                    · refine WL_val rfl rfl rfl (R_move rfl rfl) ?_
                      refine WL_val rfl rfl rfl (R_move rfl rfl) ?_
                      refine WL_val rfl rfl rfl (R_eql rfl rfl rfl) ?_
                      refine WL_val rfl rfl rfl (R_pickF rfl rfl rfl) ?_
                      refine WL_val rfl rfl rfl (R_assign rfl rfl) ?_
                      refine WL_nil ?_
                      refine WQ_code ?_
                      refine WC_region ?_
                      refine WL_val rfl rfl rfl (R_add rfl rfl rfl (by omega)) ?_
                      refine WL_val rfl rfl rfl (R_move rfl rfl) ?_
                      refine WL_nil ?_
                      refine WQ_nextF (⟨u.j + 1, decide (v9 = (j : Int))⟩) (⟨by dsimp only; omega, by dsimp only; rw [take_get hx, decide_eq_true_eq]; exact ⟨fun e8 => ⟨v9, List.mem_append_right _ (List.mem_singleton.2 rfl), e8⟩, fun ⟨v8, hv8, e8⟩ => (List.mem_append.1 hv8).elim (fun h8 => absurd (hub.2 ⟨v8, h8, e8⟩) (by simp_all)) (fun h8 => (List.mem_singleton.1 h8) ▸ e8)⟩⟩) (by dsimp only; omega) leZ (psZ) rfl (pqY)
                  · rw [List.take_of_length_le (by omega)] at hub
                    refine WC_exit ?_
                    refine WQ_code ?_
                    refine WC_seq ?_
                    refine WC_region ?_
                    obtain ⟨x9, hx9⟩ := exE (T := (y.s.park a.task one).sm) (i := j) (by omega)
                    have hst9 := stR_in hx9
                    have hin9 := in_state h2.ps hall2 hx9
                    rw [hq2] at hin9
                    have hb9 : u.b = decide (x9 = 2) := by rw [Bool.eq_iff_iff, hub, hin9]; simp
                    refine WL_val rfl rfl rfl (R_move rfl rfl) ?_
                    refine WL_val rfl rfl rfl (R_move rfl rfl) ?_
                    refine WL_do rfl rfl rfl (D_call (pk_state (y.N + 1) (y.s.park a.task one) m2 h2 (j : Int)) rfl rfl rfl rfl (pqY)) ?_
                    rintro _ _ ⟨_, ⟨rfl, rfl⟩, rfl⟩
                    rw [hst9]
                    refine WL_val rfl rfl rfl (R_move rfl rfl) ?_
                    refine WL_val rfl rfl rfl (R_extract rfl rfl rfl) ?_
                    refine WL_val rfl rfl rfl (R_extract rfl rfl rfl) ?_
                    refine WL_val rfl rfl rfl (R_assign rfl rfl) ?_
                    refine WL_val rfl rfl rfl (R_assign rfl rfl) ?_
                    refine WL_nil ?_
                    refine WQ_code ?_
                    refine WC_seq ?_
                    refine WC_region ?_
                    refine WL_val rfl rfl rfl (R_move rfl rfl) ?_
                    refine WL_val rfl rfl rfl (R_neq rfl rfl rfl) ?_
                    refine WL_set (s := 226) (v := .bool false) rfl (by simp) ?_
                    refine WL_val rfl rfl rfl (R_move rfl rfl) ?_
                    refine WL_val rfl rfl rfl (R_move rfl rfl) ?_
                    refine WL_val rfl rfl rfl (R_move rfl rfl) ?_
                    refine WL_val rfl rfl rfl (R_eql rfl rfl rfl) ?_
                    refine WL_val rfl rfl rfl (R_boolNe rfl Try.underlying4 rfl rfl) ?_
                    refine WL_set (s := 231) (v := .bool false) rfl (by rw [hb9]; simp) ?_
                    refine WL_val rfl rfl rfl (R_pickF rfl rfl rfl) ?_
                    refine WL_nil ?_
                    refine WQ_code ?_
                    refine WC_F rfl ?_
                    refine WC_skip ?_
                    refine WQ_code ?_
                    refine WC_region ?_
                    refine WL_val rfl rfl rfl (R_move rfl rfl) ?_
                    refine WL_val rfl rfl rfl (R_add rfl rfl rfl (by omega)) ?_
                    refine WL_val rfl rfl rfl (R_assign rfl rfl) ?_
                    refine WL_nil ?_
                    refine WQ_nextF (j + 1) (by omega) (by omega) leZ (psZ) rfl (pqY)
                · refine WC_exit ?_
                  refine WQ_code ?_
                  refine WC_region ?_
                  refine WL_val rfl rfl rfl (R_add rfl rfl rfl (by omega)) ?_
                  refine WL_val rfl rfl rfl (R_move rfl rfl) ?_
                  refine WL_nil ?_
                  refine WQ_nextF (⟨y.k + 1, (y.N + 1), (y.s.park a.task one), m2, (y.q ++ [a.task]), obS, kS, cS, preS, tlS⟩) (⟨by dsimp only; omega, h2, by dsimp only; omega, rfl, hall2, hq2, ownS, hsl2⟩) (by dsimp only; omega) leZ (psZ) rfl (pqY)
              · refine WL_skip rfl rfl rfl ?_
                refine WL_skip rfl rfl rfl ?_
                refine WL_skip rfl rfl rfl ?_
                refine WL_skip rfl rfl rfl ?_
                refine WL_skip rfl rfl rfl ?_
                refine WL_skip rfl rfl rfl ?_
                refine WL_skip rfl rfl rfl ?_
                refine WL_skip rfl rfl rfl ?_
                refine WL_skip rfl rfl rfl ?_
                refine WL_val rfl rfl rfl (R_pickF rfl rfl rfl) ?_
                refine WL_val rfl rfl rfl (R_pickF rfl rfl rfl) ?_
                refine WL_val rfl rfl rfl (R_move rfl rfl) ?_
                refine WL_val rfl rfl rfl (R_move rfl rfl) ?_
                refine WL_val rfl rfl rfl (R_loadA (vs := [_, _]) rfl ag25 rfl (mmY) rfl (atZ)) ?_
                refine WL_val rfl rfl rfl (R_move rfl rfl) ?_
                refine WL_do rfl rfl rfl (D_call (lwaits_okS (y.N + 1) (y.s.park a.task one) m2 h2 one hv1 (y.q ++ [a.task]) obS kS cS preS tlS ownS hw2) rfl rfl rfl rfl (pqY)) ?_
                rintro _ _ ⟨_, ⟨rfl, rfl⟩, rfl⟩
                refine WL_val rfl rfl rfl (R_not rfl rfl) ?_
                refine WL_val rfl rfl rfl (R_pickF rfl rfl rfl) ?_
                refine WL_nil ?_
                refine WQ_code ?_
                refine WC_F rfl ?_
                refine WC_skip ?_
                refine WQ_code ?_
                refine WC_seq ?_
                refine WC_region ?_
                refine WL_val rfl rfl rfl (R_assign rfl rfl) ?_
                refine WL_nil ?_
                refine WQ_code ?_
                refine WC_block ?_
                refine WC_loopF (G := Nat) [8,24,25,27,28,29,201,202,203,204,205,206,207,208,209,210,211,212,213,214,215,216,217,218,219,220,221,222,223,224,225,226,227,228,229,230,231,232] (fun j => j ≤ M) (fun j => [(24, .int .i64 (j : Int))]) (fun j => []) (fun j => M - j) (0) (Nat.zero_le _) leZ (pqY) ?_
                rintro j hj
                refine WC_seq ?_
                refine WC_seq ?_
                refine WC_region ?_
                refine WL_val rfl rfl rfl (R_move rfl rfl) ?_
                refine WL_val rfl rfl rfl (R_move rfl rfl) ?_
                refine WL_val rfl rfl rfl (R_lss rfl rfl rfl) ?_
                refine WL_nil ?_
                refine WQ_code ?_
                refine WC_dec rfl (fun c32 => ?_) (fun c32 => ?_)
                · refine WC_skip ?_
                  refine WQ_code ?_
                  refine WC_seq ?_
                  refine WC_block ?_
                  refine WC_seq ?_
                  refine WC_region ?_
                  refine WL_val rfl rfl rfl (R_assign rfl rfl) ?_
                  refine WL_nil ?_
                  refine WQ_code ?_
                  refine WC_seq ?_
                  refine WC_seq ?_
                  refine WC_region ?_
                  refine WL_val rfl rfl rfl (R_move rfl rfl) ?_
                  refine WL_val rfl rfl rfl (R_len rfl Try.underlying32 rfl) ?_
                  refine WL_val rfl rfl rfl (R_move rfl rfl) ?_
                  refine WL_nil ?_
                  refine WQ_code ?_
                  refine WC_block ?_
                  refine WC_loopF (G := InW9) [25,27,208,209,210,211,212,213,214,215,216,217,218] (fun u => u.j ≤ (y.q ++ [a.task]).length ∧ (u.b = true ↔ ∃ v ∈ (y.q ++ [a.task]).take u.j, v = (j : Int))) (fun u => [(208, .int .i64 (u.j : Int)), (25, .bool u.b)]) (fun u => []) (fun u => (y.q ++ [a.task]).length - u.j) (⟨0, false⟩) (⟨Nat.zero_le _, by simp⟩) leZ (pqY) ?_
                  rintro u ⟨huj, hub⟩
                  refine WC_seq ?_
                  refine WC_region ?_
                  refine WL_val rfl rfl rfl (R_lss rfl rfl rfl) ?_
                  refine WL_nil ?_
                  refine WQ_code ?_
                  refine WC_seq ?_
                  refine WC_dec rfl (fun c33 => ?_) (fun c33 => ?_)
                  · refine WC_skip ?_
                    refine WQ_code ?_
                    refine WC_seq ?_
                    refine WC_block ?_
                    refine WC_seq ?_
                    refine WC_region ?_
                    obtain ⟨v9, hx⟩ := exE (T := (y.q ++ [a.task])) (i := u.j) (by omega)
                    obtain ⟨wb, hwb⟩ := (ownS).some_of (by omega)
                    refine WL_val rfl rfl rfl (R_indexS hwb rfl Try.underlying32 Try.sizeOf3 rfl rfl (by omega)) ?_
                    refine WL_val rfl rfl rfl (R_loadO hwb rfl sc3 rfl (mmY) (ownS.get encI1 hx (by omega) (j := 0) (by omega))) ?_
                    refine WL_val rfl rfl rfl (R_assign rfl rfl) ?_
                    refine WL_nil ?_
                    refine WQ_code ?_
                    refine WC_region ?_
                    refine WL_val rfl rfl rfl (R_move rfl rfl) ?_
                    refine WL_val rfl rfl rfl (R_move rfl rfl) ?_
                    refine WL_split (s := 213) rfl (fun c34 => ?_) (fun c34 => ?_)
                    · refine WL_skip rfl rfl rfl ?_
                      refine WL_skip rfl rfl rfl ?_
                      refine WL_skip rfl rfl rfl ?_
                      refine WL_val rfl rfl rfl (R_pickT rfl rfl rfl) ?_
                      refine WL_val rfl rfl rfl (R_assign rfl rfl) ?_
                      refine WL_nil ?_
                      refine WQ_code ?_
                      refine WC_region ?_
                      refine WL_val rfl rfl rfl (R_add rfl rfl rfl (by omega)) ?_
                      refine WL_val rfl rfl rfl (R_move rfl rfl) ?_
                      refine WL_nil ?_
                      refine WQ_nextF (⟨u.j + 1, true⟩) (⟨by dsimp only; omega, by dsimp only; rw [take_get hx]; obtain ⟨v8, hv8, e8⟩ := hub.1 (by assumption); exact ⟨fun _ => ⟨v8, List.mem_append_left _ hv8, e8⟩, fun _ => rfl⟩⟩) (by dsimp only; omega) leZ (psZ) rfl (pqY)
                    · refine WL_val rfl rfl rfl (R_move rfl rfl) ?_
                      refine WL_val rfl rfl rfl (R_move rfl rfl) ?_
                      refine WL_val rfl rfl rfl (R_eql rfl rfl rfl) ?_
                      refine WL_val rfl rfl rfl (R_pickF rfl rfl rfl) ?_
                      refine WL_val rfl rfl rfl (R_assign rfl rfl) ?_
                      refine WL_nil ?_
                      refine WQ_code ?_
                      refine WC_region ?_
                      refine WL_val rfl rfl rfl (R_add rfl rfl rfl (by omega)) ?_
                      refine WL_val rfl rfl rfl (R_move rfl rfl) ?_
                      refine WL_nil ?_
                      refine WQ_nextF (⟨u.j + 1, decide (v9 = (j : Int))⟩) (⟨by dsimp only; omega, by dsimp only; rw [take_get hx, decide_eq_true_eq]; exact ⟨fun e8 => ⟨v9, List.mem_append_right _ (List.mem_singleton.2 rfl), e8⟩, fun ⟨v8, hv8, e8⟩ => (List.mem_append.1 hv8).elim (fun h8 => absurd (hub.2 ⟨v8, h8, e8⟩) (by simp_all)) (fun h8 => (List.mem_singleton.1 h8) ▸ e8)⟩⟩) (by dsimp only; omega) leZ (psZ) rfl (pqY)
                  · rw [List.take_of_length_le (by omega)] at hub
                    refine WC_exit ?_
                    refine WQ_code ?_
                    refine WC_seq ?_
                    refine WC_region ?_
                    obtain ⟨x9, hx9⟩ := exE (T := (y.s.park a.task one).sm) (i := j) (by omega)
                    have hst9 := stR_in hx9
                    have hin9 := in_state h2.ps hall2 hx9
                    rw [hq2] at hin9
                    have hb9 : u.b = decide (x9 = 2) := by rw [Bool.eq_iff_iff, hub, hin9]; simp
                    refine WL_val rfl rfl rfl (R_move rfl rfl) ?_
                    refine WL_val rfl rfl rfl (R_move rfl rfl) ?_
                    refine WL_do rfl rfl rfl (D_call (pk_state (y.N + 1) (y.s.park a.task one) m2 h2 (j : Int)) rfl rfl rfl rfl (pqY)) ?_
                    rintro _ _ ⟨_, ⟨rfl, rfl⟩, rfl⟩
                    rw [hst9]
                    refine WL_val rfl rfl rfl (R_move rfl rfl) ?_
                    refine WL_val rfl rfl rfl (R_extract rfl rfl rfl) ?_
                    refine WL_val rfl rfl rfl (R_extract rfl rfl rfl) ?_
                    refine WL_val rfl rfl rfl (R_assign rfl rfl) ?_
                    refine WL_val rfl rfl rfl (R_assign rfl rfl) ?_
                    refine WL_nil ?_
                    refine WQ_code ?_
                    refine WC_seq ?_
                    refine WC_region ?_
                    refine WL_val rfl rfl rfl (R_move rfl rfl) ?_
                    refine WL_val rfl rfl rfl (R_neq rfl rfl rfl) ?_
                    refine WL_set (s := 226) (v := .bool false) rfl (by simp) ?_
                    refine WL_val rfl rfl rfl (R_move rfl rfl) ?_
                    refine WL_val rfl rfl rfl (R_move rfl rfl) ?_
                    refine WL_val rfl rfl rfl (R_move rfl rfl) ?_
                    refine WL_val rfl rfl rfl (R_eql rfl rfl rfl) ?_
                    refine WL_val rfl rfl rfl (R_boolNe rfl Try.underlying4 rfl rfl) ?_
                    refine WL_set (s := 231) (v := .bool false) rfl (by rw [hb9]; simp) ?_
                    refine WL_val rfl rfl rfl (R_pickF rfl rfl rfl) ?_
                    refine WL_nil ?_
                    refine WQ_code ?_
                    refine WC_F rfl ?_
                    refine WC_skip ?_
                    refine WQ_code ?_
                    refine WC_region ?_
                    refine WL_val rfl rfl rfl (R_move rfl rfl) ?_
                    refine WL_val rfl rfl rfl (R_add rfl rfl rfl (by omega)) ?_
                    refine WL_val rfl rfl rfl (R_assign rfl rfl) ?_
                    refine WL_nil ?_
                    refine WQ_nextF (j + 1) (by omega) (by omega) leZ (psZ) rfl (pqY)
                · refine WC_exit ?_
                  refine WQ_code ?_
                  refine WC_region ?_
                  refine WL_val rfl rfl rfl (R_add rfl rfl rfl (by omega)) ?_
                  refine WL_val rfl rfl rfl (R_move rfl rfl) ?_
                  refine WL_nil ?_
                  refine WQ_nextF (⟨y.k + 1, (y.N + 1), (y.s.park a.task one), m2, (y.q ++ [a.task]), obS, kS, cS, preS, tlS⟩) (⟨by dsimp only; omega, h2, by dsimp only; omega, rfl, hall2, hq2, ownS, hsl2⟩) (by dsimp only; omega) leZ (psZ) rfl (pqY)
            · rw [park_no y.s c27] at h2
              refine WC_skip ?_
              refine WQ_code ?_
              refine WC_seq ?_
              refine WC_region ?_
              have hall2 : ∀ w0 ∈ y.s.W, w0.at_ = one := hall
              have hq2 : wAt y.s.W one = y.q := hq
              have hw2 : y.s.waiting one = y.q := (waiting_v hv1).trans hq2
              have hql2 : y.q.length ≤ 64 := by rw [← hq2]; exact Nat.le_trans (wAt_len _ _) h2.ps.few
              have hsl2 : y.s.sm.length = M := by exact hsl
              refine WL_val rfl rfl rfl (R_move rfl rfl) ?_
              refine WL_val rfl rfl rfl (R_loadA (vs := [_, _]) rfl ag25 rfl (mmY) rfl (atZ)) ?_
              refine WL_do rfl rfl rfl (D_call (pk_waiting (y.N + 1) y.s m2 h2 two) rfl rfl rfl rfl (pqY)) ?_
              rintro _ _ ⟨_, ⟨o2, c2, t2, rfl, own2, rfl⟩, rfl⟩
              refine WL_val rfl rfl rfl (R_move rfl rfl) ?_
              refine WL_val rfl rfl rfl (R_extract rfl rfl rfl) ?_
              refine WL_val rfl rfl rfl (R_extract rfl rfl rfl) ?_
              refine WL_val rfl rfl rfl (R_assign rfl rfl) ?_
              refine WL_val rfl rfl rfl (R_assign rfl rfl) ?_
              refine WL_nil ?_
              refine WQ_code ?_
              refine WC_seq ?_
              refine WC_seq ?_
              refine WC_region ?_
              refine WL_val rfl rfl rfl (R_move rfl rfl) ?_
              refine WL_val rfl rfl rfl (R_neq rfl rfl rfl) ?_
              refine WL_set (s := 177) (v := .bool false) rfl (by simp [hsp2]) ?_
              refine WL_val rfl rfl rfl (R_move rfl rfl) ?_
              refine WL_val rfl rfl rfl (R_loadA (vs := [_, _]) rfl ag25 rfl (mmY) rfl (atZ)) ?_
              refine WL_val rfl rfl rfl (R_loadA (vs := [_, _]) rfl ag25 rfl (mmY) rfl (atZ)) ?_
              refine WL_val rfl rfl rfl (R_sne25 rfl rfl rfl rfl) ?_
              refine WL_val rfl rfl rfl (R_move rfl rfl) ?_
              refine WL_splitD (s := 182) rfl (fun c35 => ?_) (fun c35 => ?_)
              · have hne : one ≠ two := fun e => c35 (by rw [e]; exact ⟨rfl, rfl⟩)
                have hwA : y.s.waiting two = [] := wait_none hall hne
                have hwB := wait_none hall2 hne
                rw [hwA] at own1
                rw [hwB] at own2
                rw [hwA]
                try rw [hwB]
                refine WL_val rfl rfl rfl (R_move rfl rfl) ?_
                refine WL_val rfl rfl rfl (R_len rfl Try.underlying32 rfl) ?_
                refine WL_val rfl rfl rfl (R_neq rfl rfl rfl) ?_
                refine WL_set (s := 185) (v := .bool false) rfl (by simp) ?_
                refine WL_val rfl rfl rfl (R_move rfl rfl) ?_
                refine WL_val rfl rfl rfl (R_move rfl rfl) ?_
                refine WL_val rfl rfl rfl (R_move rfl rfl) ?_
                refine WL_do rfl rfl rfl (D_call (same_ok [] (by decide) o1 c1 t1 o2 c2 t2 own1 own2) rfl rfl rfl rfl (pqY)) ?_
                rintro _ _ ⟨_, ⟨rfl, rfl⟩, rfl⟩
                refine WL_val rfl rfl rfl (R_not rfl rfl) ?_
                refine WL_val rfl rfl rfl (R_pickF rfl rfl rfl) ?_
                refine WL_val rfl rfl rfl (R_pickT rfl rfl rfl) ?_
                refine WL_val rfl rfl rfl (R_pickF rfl rfl rfl) ?_
                refine WL_val rfl rfl rfl (R_move rfl rfl) ?_
                refine WL_val rfl rfl rfl (R_move rfl rfl) ?_
                refine WL_val rfl rfl rfl (R_loadA (vs := [_, _]) rfl ag25 rfl (mmY) rfl (atZ)) ?_
                refine WL_val rfl rfl rfl (R_move rfl rfl) ?_
                refine WL_do rfl rfl rfl (D_call (lwaits_okS (y.N + 1) y.s m2 h2 one hv1 y.q y.ob y.kk y.c y.pre y.tl hyo hw2) rfl rfl rfl rfl (pqY)) ?_
                rintro _ _ ⟨_, ⟨rfl, rfl⟩, rfl⟩
                refine WL_val rfl rfl rfl (R_not rfl rfl) ?_
                refine WL_val rfl rfl rfl (R_pickF rfl rfl rfl) ?_
                refine WL_nil ?_
                refine WQ_code ?_
                refine WC_F rfl ?_
                refine WC_skip ?_
                refine WQ_code ?_
                refine WC_seq ?_
                refine WC_region ?_
                refine WL_val rfl rfl rfl (R_assign rfl rfl) ?_
                refine WL_nil ?_
                refine WQ_code ?_
                refine WC_block ?_
                refine WC_loopF (G := Nat) [8,24,25,27,28,29,201,202,203,204,205,206,207,208,209,210,211,212,213,214,215,216,217,218,219,220,221,222,223,224,225,226,227,228,229,230,231,232] (fun j => j ≤ M) (fun j => [(24, .int .i64 (j : Int))]) (fun j => []) (fun j => M - j) (0) (Nat.zero_le _) leZ (pqY) ?_
                rintro j hj
                refine WC_seq ?_
                refine WC_seq ?_
                refine WC_region ?_
                refine WL_val rfl rfl rfl (R_move rfl rfl) ?_
                refine WL_val rfl rfl rfl (R_move rfl rfl) ?_
                refine WL_val rfl rfl rfl (R_lss rfl rfl rfl) ?_
                refine WL_nil ?_
                refine WQ_code ?_
                refine WC_dec rfl (fun c36 => ?_) (fun c36 => ?_)
                · refine WC_skip ?_
                  refine WQ_code ?_
                  refine WC_seq ?_
                  refine WC_block ?_
                  refine WC_seq ?_
                  refine WC_region ?_
                  refine WL_val rfl rfl rfl (R_assign rfl rfl) ?_
                  refine WL_nil ?_
                  refine WQ_code ?_
                  refine WC_seq ?_
                  refine WC_seq ?_
                  refine WC_region ?_
                  refine WL_val rfl rfl rfl (R_move rfl rfl) ?_
                  refine WL_val rfl rfl rfl (R_len rfl Try.underlying32 rfl) ?_
                  refine WL_val rfl rfl rfl (R_move rfl rfl) ?_
                  refine WL_nil ?_
                  refine WQ_code ?_
                  refine WC_block ?_
                  refine WC_loopF (G := InW9) [25,27,208,209,210,211,212,213,214,215,216,217,218] (fun u => u.j ≤ y.q.length ∧ (u.b = true ↔ ∃ v ∈ y.q.take u.j, v = (j : Int))) (fun u => [(208, .int .i64 (u.j : Int)), (25, .bool u.b)]) (fun u => []) (fun u => y.q.length - u.j) (⟨0, false⟩) (⟨Nat.zero_le _, by simp⟩) leZ (pqY) ?_
                  rintro u ⟨huj, hub⟩
                  refine WC_seq ?_
                  refine WC_region ?_
                  refine WL_val rfl rfl rfl (R_lss rfl rfl rfl) ?_
                  refine WL_nil ?_
                  refine WQ_code ?_
                  refine WC_seq ?_
                  refine WC_dec rfl (fun c37 => ?_) (fun c37 => ?_)
                  · refine WC_skip ?_
                    refine WQ_code ?_
                    refine WC_seq ?_
                    refine WC_block ?_
                    refine WC_seq ?_
                    refine WC_region ?_
                    obtain ⟨v9, hx⟩ := exE (T := y.q) (i := u.j) (by omega)
                    obtain ⟨wb, hwb⟩ := (hyo).some_of (by omega)
                    refine WL_val rfl rfl rfl (R_indexS hwb rfl Try.underlying32 Try.sizeOf3 rfl rfl (by omega)) ?_
                    refine WL_val rfl rfl rfl (R_loadO hwb rfl sc3 rfl (mmY) (hyo.get encI1 hx (by omega) (j := 0) (by omega))) ?_
                    refine WL_val rfl rfl rfl (R_assign rfl rfl) ?_
                    refine WL_nil ?_
                    refine WQ_code ?_
                    refine WC_region ?_
                    refine WL_val rfl rfl rfl (R_move rfl rfl) ?_
                    refine WL_val rfl rfl rfl (R_move rfl rfl) ?_
                    refine WL_split (s := 213) rfl (fun c38 => ?_) (fun c38 => ?_)
                    · refine WL_skip rfl rfl rfl ?_
                      refine WL_skip rfl rfl rfl ?_
                      refine WL_skip rfl rfl rfl ?_
                      refine WL_val rfl rfl rfl (R_pickT rfl rfl rfl) ?_
                      refine WL_val rfl rfl rfl (R_assign rfl rfl) ?_
                      refine WL_nil ?_
                      refine WQ_code ?_
                      refine WC_region ?_
                      refine WL_val rfl rfl rfl (R_add rfl rfl rfl (by omega)) ?_
                      refine WL_val rfl rfl rfl (R_move rfl rfl) ?_
                      refine WL_nil ?_
                      refine WQ_nextF (⟨u.j + 1, true⟩) (⟨by dsimp only; omega, by dsimp only; rw [take_get hx]; obtain ⟨v8, hv8, e8⟩ := hub.1 (by assumption); exact ⟨fun _ => ⟨v8, List.mem_append_left _ hv8, e8⟩, fun _ => rfl⟩⟩) (by dsimp only; omega) leZ (psZ) rfl (pqY)
                    · refine WL_val rfl rfl rfl (R_move rfl rfl) ?_
                      refine WL_val rfl rfl rfl (R_move rfl rfl) ?_
                      refine WL_val rfl rfl rfl (R_eql rfl rfl rfl) ?_
                      refine WL_val rfl rfl rfl (R_pickF rfl rfl rfl) ?_
                      refine WL_val rfl rfl rfl (R_assign rfl rfl) ?_
                      refine WL_nil ?_
                      refine WQ_code ?_
                      refine WC_region ?_
                      refine WL_val rfl rfl rfl (R_add rfl rfl rfl (by omega)) ?_
                      refine WL_val rfl rfl rfl (R_move rfl rfl) ?_
                      refine WL_nil ?_
                      refine WQ_nextF (⟨u.j + 1, decide (v9 = (j : Int))⟩) (⟨by dsimp only; omega, by dsimp only; rw [take_get hx, decide_eq_true_eq]; exact ⟨fun e8 => ⟨v9, List.mem_append_right _ (List.mem_singleton.2 rfl), e8⟩, fun ⟨v8, hv8, e8⟩ => (List.mem_append.1 hv8).elim (fun h8 => absurd (hub.2 ⟨v8, h8, e8⟩) (by simp_all)) (fun h8 => (List.mem_singleton.1 h8) ▸ e8)⟩⟩) (by dsimp only; omega) leZ (psZ) rfl (pqY)
                  · rw [List.take_of_length_le (by omega)] at hub
                    refine WC_exit ?_
                    refine WQ_code ?_
                    refine WC_seq ?_
                    refine WC_region ?_
                    obtain ⟨x9, hx9⟩ := exE (T := y.s.sm) (i := j) (by omega)
                    have hst9 := stR_in hx9
                    have hin9 := in_state h2.ps hall2 hx9
                    rw [hq2] at hin9
                    have hb9 : u.b = decide (x9 = 2) := by rw [Bool.eq_iff_iff, hub, hin9]; simp
                    refine WL_val rfl rfl rfl (R_move rfl rfl) ?_
                    refine WL_val rfl rfl rfl (R_move rfl rfl) ?_
                    refine WL_do rfl rfl rfl (D_call (pk_state (y.N + 1) y.s m2 h2 (j : Int)) rfl rfl rfl rfl (pqY)) ?_
                    rintro _ _ ⟨_, ⟨rfl, rfl⟩, rfl⟩
                    rw [hst9]
                    refine WL_val rfl rfl rfl (R_move rfl rfl) ?_
                    refine WL_val rfl rfl rfl (R_extract rfl rfl rfl) ?_
                    refine WL_val rfl rfl rfl (R_extract rfl rfl rfl) ?_
                    refine WL_val rfl rfl rfl (R_assign rfl rfl) ?_
                    refine WL_val rfl rfl rfl (R_assign rfl rfl) ?_
                    refine WL_nil ?_
                    refine WQ_code ?_
                    refine WC_seq ?_
                    refine WC_region ?_
                    refine WL_val rfl rfl rfl (R_move rfl rfl) ?_
                    refine WL_val rfl rfl rfl (R_neq rfl rfl rfl) ?_
                    refine WL_set (s := 226) (v := .bool false) rfl (by simp) ?_
                    refine WL_val rfl rfl rfl (R_move rfl rfl) ?_
                    refine WL_val rfl rfl rfl (R_move rfl rfl) ?_
                    refine WL_val rfl rfl rfl (R_move rfl rfl) ?_
                    refine WL_val rfl rfl rfl (R_eql rfl rfl rfl) ?_
                    refine WL_val rfl rfl rfl (R_boolNe rfl Try.underlying4 rfl rfl) ?_
                    refine WL_set (s := 231) (v := .bool false) rfl (by rw [hb9]; simp) ?_
                    refine WL_val rfl rfl rfl (R_pickF rfl rfl rfl) ?_
                    refine WL_nil ?_
                    refine WQ_code ?_
                    refine WC_F rfl ?_
                    refine WC_skip ?_
                    refine WQ_code ?_
                    refine WC_region ?_
                    refine WL_val rfl rfl rfl (R_move rfl rfl) ?_
                    refine WL_val rfl rfl rfl (R_add rfl rfl rfl (by omega)) ?_
                    refine WL_val rfl rfl rfl (R_assign rfl rfl) ?_
                    refine WL_nil ?_
                    refine WQ_nextF (j + 1) (by omega) (by omega) leZ (psZ) rfl (pqY)
                · refine WC_exit ?_
                  refine WQ_code ?_
                  refine WC_region ?_
                  refine WL_val rfl rfl rfl (R_add rfl rfl rfl (by omega)) ?_
                  refine WL_val rfl rfl rfl (R_move rfl rfl) ?_
                  refine WL_nil ?_
                  refine WQ_nextF (⟨y.k + 1, (y.N + 1), y.s, m2, y.q, y.ob, y.kk, y.c, y.pre, y.tl⟩) (⟨by dsimp only; omega, h2, by dsimp only; omega, rfl, hall2, hq2, hyo, hsl2⟩) (by dsimp only; omega) leZ (psZ) rfl (pqY)
              · refine WL_skip rfl rfl rfl ?_
                refine WL_skip rfl rfl rfl ?_
                refine WL_skip rfl rfl rfl ?_
                refine WL_skip rfl rfl rfl ?_
                refine WL_skip rfl rfl rfl ?_
                refine WL_skip rfl rfl rfl ?_
                refine WL_skip rfl rfl rfl ?_
                refine WL_skip rfl rfl rfl ?_
                refine WL_skip rfl rfl rfl ?_
                refine WL_val rfl rfl rfl (R_pickF rfl rfl rfl) ?_
                refine WL_val rfl rfl rfl (R_pickF rfl rfl rfl) ?_
                refine WL_val rfl rfl rfl (R_move rfl rfl) ?_
                refine WL_val rfl rfl rfl (R_move rfl rfl) ?_
                refine WL_val rfl rfl rfl (R_loadA (vs := [_, _]) rfl ag25 rfl (mmY) rfl (atZ)) ?_
                refine WL_val rfl rfl rfl (R_move rfl rfl) ?_
                refine WL_do rfl rfl rfl (D_call (lwaits_okS (y.N + 1) y.s m2 h2 one hv1 y.q y.ob y.kk y.c y.pre y.tl hyo hw2) rfl rfl rfl rfl (pqY)) ?_
                rintro _ _ ⟨_, ⟨rfl, rfl⟩, rfl⟩
                refine WL_val rfl rfl rfl (R_not rfl rfl) ?_
                refine WL_val rfl rfl rfl (R_pickF rfl rfl rfl) ?_
                refine WL_nil ?_
                refine WQ_code ?_
                refine WC_F rfl ?_
                refine WC_skip ?_
                refine WQ_code ?_
                refine WC_seq ?_
                refine WC_region ?_
                refine WL_val rfl rfl rfl (R_assign rfl rfl) ?_
                refine WL_nil ?_
                refine WQ_code ?_
                refine WC_block ?_
                refine WC_loopF (G := Nat) [8,24,25,27,28,29,201,202,203,204,205,206,207,208,209,210,211,212,213,214,215,216,217,218,219,220,221,222,223,224,225,226,227,228,229,230,231,232] (fun j => j ≤ M) (fun j => [(24, .int .i64 (j : Int))]) (fun j => []) (fun j => M - j) (0) (Nat.zero_le _) leZ (pqY) ?_
                rintro j hj
                refine WC_seq ?_
                refine WC_seq ?_
                refine WC_region ?_
                refine WL_val rfl rfl rfl (R_move rfl rfl) ?_
                refine WL_val rfl rfl rfl (R_move rfl rfl) ?_
                refine WL_val rfl rfl rfl (R_lss rfl rfl rfl) ?_
                refine WL_nil ?_
                refine WQ_code ?_
                refine WC_dec rfl (fun c39 => ?_) (fun c39 => ?_)
                · refine WC_skip ?_
                  refine WQ_code ?_
                  refine WC_seq ?_
                  refine WC_block ?_
                  refine WC_seq ?_
                  refine WC_region ?_
                  refine WL_val rfl rfl rfl (R_assign rfl rfl) ?_
                  refine WL_nil ?_
                  refine WQ_code ?_
                  refine WC_seq ?_
                  refine WC_seq ?_
                  refine WC_region ?_
                  refine WL_val rfl rfl rfl (R_move rfl rfl) ?_
                  refine WL_val rfl rfl rfl (R_len rfl Try.underlying32 rfl) ?_
                  refine WL_val rfl rfl rfl (R_move rfl rfl) ?_
                  refine WL_nil ?_
                  refine WQ_code ?_
                  refine WC_block ?_
                  refine WC_loopF (G := InW9) [25,27,208,209,210,211,212,213,214,215,216,217,218] (fun u => u.j ≤ y.q.length ∧ (u.b = true ↔ ∃ v ∈ y.q.take u.j, v = (j : Int))) (fun u => [(208, .int .i64 (u.j : Int)), (25, .bool u.b)]) (fun u => []) (fun u => y.q.length - u.j) (⟨0, false⟩) (⟨Nat.zero_le _, by simp⟩) leZ (pqY) ?_
                  rintro u ⟨huj, hub⟩
                  refine WC_seq ?_
                  refine WC_region ?_
                  refine WL_val rfl rfl rfl (R_lss rfl rfl rfl) ?_
                  refine WL_nil ?_
                  refine WQ_code ?_
                  refine WC_seq ?_
                  refine WC_dec rfl (fun c40 => ?_) (fun c40 => ?_)
                  · refine WC_skip ?_
                    refine WQ_code ?_
                    refine WC_seq ?_
                    refine WC_block ?_
                    refine WC_seq ?_
                    refine WC_region ?_
                    obtain ⟨v9, hx⟩ := exE (T := y.q) (i := u.j) (by omega)
                    obtain ⟨wb, hwb⟩ := (hyo).some_of (by omega)
                    refine WL_val rfl rfl rfl (R_indexS hwb rfl Try.underlying32 Try.sizeOf3 rfl rfl (by omega)) ?_
                    refine WL_val rfl rfl rfl (R_loadO hwb rfl sc3 rfl (mmY) (hyo.get encI1 hx (by omega) (j := 0) (by omega))) ?_
                    refine WL_val rfl rfl rfl (R_assign rfl rfl) ?_
                    refine WL_nil ?_
                    refine WQ_code ?_
                    refine WC_region ?_
                    refine WL_val rfl rfl rfl (R_move rfl rfl) ?_
                    refine WL_val rfl rfl rfl (R_move rfl rfl) ?_
                    refine WL_split (s := 213) rfl (fun c41 => ?_) (fun c41 => ?_)
                    · refine WL_skip rfl rfl rfl ?_
                      refine WL_skip rfl rfl rfl ?_
                      refine WL_skip rfl rfl rfl ?_
                      refine WL_val rfl rfl rfl (R_pickT rfl rfl rfl) ?_
                      refine WL_val rfl rfl rfl (R_assign rfl rfl) ?_
                      refine WL_nil ?_
                      refine WQ_code ?_
                      refine WC_region ?_
                      refine WL_val rfl rfl rfl (R_add rfl rfl rfl (by omega)) ?_
                      refine WL_val rfl rfl rfl (R_move rfl rfl) ?_
                      refine WL_nil ?_
                      refine WQ_nextF (⟨u.j + 1, true⟩) (⟨by dsimp only; omega, by dsimp only; rw [take_get hx]; obtain ⟨v8, hv8, e8⟩ := hub.1 (by assumption); exact ⟨fun _ => ⟨v8, List.mem_append_left _ hv8, e8⟩, fun _ => rfl⟩⟩) (by dsimp only; omega) leZ (psZ) rfl (pqY)
                    · refine WL_val rfl rfl rfl (R_move rfl rfl) ?_
                      refine WL_val rfl rfl rfl (R_move rfl rfl) ?_
                      refine WL_val rfl rfl rfl (R_eql rfl rfl rfl) ?_
                      refine WL_val rfl rfl rfl (R_pickF rfl rfl rfl) ?_
                      refine WL_val rfl rfl rfl (R_assign rfl rfl) ?_
                      refine WL_nil ?_
                      refine WQ_code ?_
                      refine WC_region ?_
                      refine WL_val rfl rfl rfl (R_add rfl rfl rfl (by omega)) ?_
                      refine WL_val rfl rfl rfl (R_move rfl rfl) ?_
                      refine WL_nil ?_
                      refine WQ_nextF (⟨u.j + 1, decide (v9 = (j : Int))⟩) (⟨by dsimp only; omega, by dsimp only; rw [take_get hx, decide_eq_true_eq]; exact ⟨fun e8 => ⟨v9, List.mem_append_right _ (List.mem_singleton.2 rfl), e8⟩, fun ⟨v8, hv8, e8⟩ => (List.mem_append.1 hv8).elim (fun h8 => absurd (hub.2 ⟨v8, h8, e8⟩) (by simp_all)) (fun h8 => (List.mem_singleton.1 h8) ▸ e8)⟩⟩) (by dsimp only; omega) leZ (psZ) rfl (pqY)
                  · rw [List.take_of_length_le (by omega)] at hub
                    refine WC_exit ?_
                    refine WQ_code ?_
                    refine WC_seq ?_
                    refine WC_region ?_
                    obtain ⟨x9, hx9⟩ := exE (T := y.s.sm) (i := j) (by omega)
                    have hst9 := stR_in hx9
                    have hin9 := in_state h2.ps hall2 hx9
                    rw [hq2] at hin9
                    have hb9 : u.b = decide (x9 = 2) := by rw [Bool.eq_iff_iff, hub, hin9]; simp
                    refine WL_val rfl rfl rfl (R_move rfl rfl) ?_
                    refine WL_val rfl rfl rfl (R_move rfl rfl) ?_
                    refine WL_do rfl rfl rfl (D_call (pk_state (y.N + 1) y.s m2 h2 (j : Int)) rfl rfl rfl rfl (pqY)) ?_
                    rintro _ _ ⟨_, ⟨rfl, rfl⟩, rfl⟩
                    rw [hst9]
                    refine WL_val rfl rfl rfl (R_move rfl rfl) ?_
                    refine WL_val rfl rfl rfl (R_extract rfl rfl rfl) ?_
                    refine WL_val rfl rfl rfl (R_extract rfl rfl rfl) ?_
                    refine WL_val rfl rfl rfl (R_assign rfl rfl) ?_
                    refine WL_val rfl rfl rfl (R_assign rfl rfl) ?_
                    refine WL_nil ?_
                    refine WQ_code ?_
                    refine WC_seq ?_
                    refine WC_region ?_
                    refine WL_val rfl rfl rfl (R_move rfl rfl) ?_
                    refine WL_val rfl rfl rfl (R_neq rfl rfl rfl) ?_
                    refine WL_set (s := 226) (v := .bool false) rfl (by simp) ?_
                    refine WL_val rfl rfl rfl (R_move rfl rfl) ?_
                    refine WL_val rfl rfl rfl (R_move rfl rfl) ?_
                    refine WL_val rfl rfl rfl (R_move rfl rfl) ?_
                    refine WL_val rfl rfl rfl (R_eql rfl rfl rfl) ?_
                    refine WL_val rfl rfl rfl (R_boolNe rfl Try.underlying4 rfl rfl) ?_
                    refine WL_set (s := 231) (v := .bool false) rfl (by rw [hb9]; simp) ?_
                    refine WL_val rfl rfl rfl (R_pickF rfl rfl rfl) ?_
                    refine WL_nil ?_
                    refine WQ_code ?_
                    refine WC_F rfl ?_
                    refine WC_skip ?_
                    refine WQ_code ?_
                    refine WC_region ?_
                    refine WL_val rfl rfl rfl (R_move rfl rfl) ?_
                    refine WL_val rfl rfl rfl (R_add rfl rfl rfl (by omega)) ?_
                    refine WL_val rfl rfl rfl (R_assign rfl rfl) ?_
                    refine WL_nil ?_
                    refine WQ_nextF (j + 1) (by omega) (by omega) leZ (psZ) rfl (pqY)
                · refine WC_exit ?_
                  refine WQ_code ?_
                  refine WC_region ?_
                  refine WL_val rfl rfl rfl (R_add rfl rfl rfl (by omega)) ?_
                  refine WL_val rfl rfl rfl (R_move rfl rfl) ?_
                  refine WL_nil ?_
                  refine WQ_nextF (⟨y.k + 1, (y.N + 1), y.s, m2, y.q, y.ob, y.kk, y.c, y.pre, y.tl⟩) (⟨by dsimp only; omega, h2, by dsimp only; omega, rfl, hall2, hq2, hyo, hsl2⟩) (by dsimp only; omega) leZ (psZ) rfl (pqY)
          · refine WC_seq ?_
            refine WC_seq ?_
            refine WC_region ?_
            refine WL_val rfl rfl rfl (R_eql rfl rfl rfl) ?_
            refine WL_val rfl rfl rfl (R_assign rfl rfl) ?_
            refine WL_nil ?_
            refine WQ_code ?_
            refine WC_dec rfl (fun c42 => ?_) (fun c42 => ?_)
            · obtain hq0 | ⟨v, q9, hqc⟩ : y.q = [] ∨ ∃ v q9, y.q = v :: q9 := by cases y.q with | nil => exact .inl rfl | cons a b => exact .inr ⟨a, b, rfl⟩
              · have e9 := wakeR_none y.s hv1 (hq.trans hq0)
                have ew : y.s.wake one = y.s := by unfold PS.wake; rw [e9, if_neg (by decide)]
                refine WC_skip ?_
                refine WQ_code ?_
                refine WC_dT rfl c42 ?_
                refine WC_seq ?_
                refine WC_region ?_
                refine WL_val rfl rfl rfl (R_move rfl rfl) ?_
                refine WL_val rfl rfl rfl (R_loadA (vs := [_, _]) rfl ag25 rfl (mmY) rfl (atZ)) ?_
                refine WL_do rfl rfl rfl (D_call (pk_wake y.N y.s y.m hy (by omega) one) rfl rfl rfl rfl (pqY)) ?_
                rintro _ _ ⟨_, ⟨m2, rfl, rfl, hp2, h2⟩, rfl⟩
                rw [e9]
                rw [ew] at h2
                rw [← hp2]
                refine WL_val rfl rfl rfl (R_move rfl rfl) ?_
                refine WL_val rfl rfl rfl (R_extract rfl rfl rfl) ?_
                refine WL_val rfl rfl rfl (R_extract rfl rfl rfl) ?_
                refine WL_val rfl rfl rfl (R_assign rfl rfl) ?_
                refine WL_val rfl rfl rfl (R_assign rfl rfl) ?_
                refine WL_nil ?_
                refine WQ_code ?_
                refine WC_seq ?_
                refine WC_seq ?_
                refine WC_region ?_
                refine WL_val rfl rfl rfl (R_move rfl rfl) ?_
                refine WL_val rfl rfl rfl (R_eql rfl rfl rfl) ?_
                refine WL_set (s := 120) (v := .bool false) rfl (by simp) ?_
                refine WL_val rfl rfl rfl (R_move rfl rfl) ?_
                refine WL_val rfl rfl rfl (R_len rfl Try.underlying32 rfl) ?_
                refine WL_val rfl rfl rfl (R_gtr rfl rfl rfl) ?_
                refine WL_set (s := 123) (v := .bool false) rfl (by simp [hq0]) ?_
                refine WL_val rfl rfl rfl (R_boolNe rfl Try.underlying4 rfl rfl) ?_
                refine WL_set (s := 124) (v := .bool false) rfl (by rfl) ?_
                refine WL_val rfl rfl rfl (R_move rfl rfl) ?_
                refine WL_val rfl rfl rfl (R_move rfl rfl) ?_
                refine WL_val rfl rfl rfl (R_eql rfl rfl rfl) ?_
                refine WL_set (s := 127) (v := .bool false) rfl (by simp) ?_
                refine WL_val rfl rfl rfl (R_move rfl rfl) ?_
                refine WL_skip rfl rfl rfl ?_
                refine WL_skip rfl rfl rfl ?_
                refine WL_skip rfl rfl rfl ?_
                refine WL_skip rfl rfl rfl ?_
                refine WL_skip rfl rfl rfl ?_
                refine WL_val rfl rfl rfl (R_pickF rfl rfl rfl) ?_
                refine WL_val rfl rfl rfl (R_pickF rfl rfl rfl) ?_
                refine WL_nil ?_
                refine WQ_code ?_
                refine WC_F rfl ?_
                refine WC_skip ?_
                refine WQ_code ?_
                refine WC_seq ?_
                refine WC_region ?_
                refine WL_val rfl rfl rfl (R_move rfl rfl) ?_
                refine WL_val rfl rfl rfl (R_eql rfl rfl rfl) ?_
                refine WL_set (s := 137) (v := .bool false) rfl (by simp) ?_
                refine WL_nil ?_
                refine WQ_code ?_
                refine WC_F rfl ?_
                refine WC_skip ?_
                refine WQ_code ?_
                refine WC_seq ?_
                refine WC_region ?_
                have hall2 : ∀ w0 ∈ y.s.W, w0.at_ = one := hall
                have hq2 : wAt y.s.W one = y.q := hq
                have hw2 : y.s.waiting one = y.q := (waiting_v hv1).trans hq2
                have hql2 : y.q.length ≤ 64 := by rw [← hq2]; exact Nat.le_trans (wAt_len _ _) h2.ps.few
                have hsl2 : y.s.sm.length = M := by exact hsl
                refine WL_val rfl rfl rfl (R_move rfl rfl) ?_
                refine WL_val rfl rfl rfl (R_loadA (vs := [_, _]) rfl ag25 rfl (mmY) rfl (atZ)) ?_
                refine WL_do rfl rfl rfl (D_call (pk_waiting (y.N + 1) y.s m2 h2 two) rfl rfl rfl rfl (pqY)) ?_
                rintro _ _ ⟨_, ⟨o2, c2, t2, rfl, own2, rfl⟩, rfl⟩
                refine WL_val rfl rfl rfl (R_move rfl rfl) ?_
                refine WL_val rfl rfl rfl (R_extract rfl rfl rfl) ?_
                refine WL_val rfl rfl rfl (R_extract rfl rfl rfl) ?_
                refine WL_val rfl rfl rfl (R_assign rfl rfl) ?_
                refine WL_val rfl rfl rfl (R_assign rfl rfl) ?_
                refine WL_nil ?_
                refine WQ_code ?_
                refine WC_seq ?_
                refine WC_seq ?_
                refine WC_region ?_
                refine WL_val rfl rfl rfl (R_move rfl rfl) ?_
                refine WL_val rfl rfl rfl (R_neq rfl rfl rfl) ?_
                refine WL_set (s := 177) (v := .bool false) rfl (by simp [hsp2]) ?_
                refine WL_val rfl rfl rfl (R_move rfl rfl) ?_
                refine WL_val rfl rfl rfl (R_loadA (vs := [_, _]) rfl ag25 rfl (mmY) rfl (atZ)) ?_
                refine WL_val rfl rfl rfl (R_loadA (vs := [_, _]) rfl ag25 rfl (mmY) rfl (atZ)) ?_
                refine WL_val rfl rfl rfl (R_sne25 rfl rfl rfl rfl) ?_
                refine WL_val rfl rfl rfl (R_move rfl rfl) ?_
                refine WL_splitD (s := 182) rfl (fun c43 => ?_) (fun c43 => ?_)
                · have hne : one ≠ two := fun e => c43 (by rw [e]; exact ⟨rfl, rfl⟩)
                  have hwA : y.s.waiting two = [] := wait_none hall hne
                  have hwB := wait_none hall2 hne
                  rw [hwA] at own1
                  rw [hwB] at own2
                  rw [hwA]
                  try rw [hwB]
                  refine WL_val rfl rfl rfl (R_move rfl rfl) ?_
                  refine WL_val rfl rfl rfl (R_len rfl Try.underlying32 rfl) ?_
                  refine WL_val rfl rfl rfl (R_neq rfl rfl rfl) ?_
                  refine WL_set (s := 185) (v := .bool false) rfl (by simp) ?_
                  refine WL_val rfl rfl rfl (R_move rfl rfl) ?_
                  refine WL_val rfl rfl rfl (R_move rfl rfl) ?_
                  refine WL_val rfl rfl rfl (R_move rfl rfl) ?_
                  refine WL_do rfl rfl rfl (D_call (same_ok [] (by decide) o1 c1 t1 o2 c2 t2 own1 own2) rfl rfl rfl rfl (pqY)) ?_
                  rintro _ _ ⟨_, ⟨rfl, rfl⟩, rfl⟩
                  refine WL_val rfl rfl rfl (R_not rfl rfl) ?_
                  refine WL_val rfl rfl rfl (R_pickF rfl rfl rfl) ?_
                  refine WL_val rfl rfl rfl (R_pickT rfl rfl rfl) ?_
                  refine WL_val rfl rfl rfl (R_pickF rfl rfl rfl) ?_
                  refine WL_val rfl rfl rfl (R_move rfl rfl) ?_
                  refine WL_val rfl rfl rfl (R_move rfl rfl) ?_
                  refine WL_val rfl rfl rfl (R_loadA (vs := [_, _]) rfl ag25 rfl (mmY) rfl (atZ)) ?_
                  refine WL_val rfl rfl rfl (R_move rfl rfl) ?_
                  refine WL_do rfl rfl rfl (D_call (lwaits_okS (y.N + 1) y.s m2 h2 one hv1 y.q y.ob y.kk y.c y.pre y.tl hyo hw2) rfl rfl rfl rfl (pqY)) ?_
                  rintro _ _ ⟨_, ⟨rfl, rfl⟩, rfl⟩
                  refine WL_val rfl rfl rfl (R_not rfl rfl) ?_
                  refine WL_val rfl rfl rfl (R_pickF rfl rfl rfl) ?_
                  refine WL_nil ?_
                  refine WQ_code ?_
                  refine WC_F rfl ?_
                  refine WC_skip ?_
                  refine WQ_code ?_
                  refine WC_seq ?_
                  refine WC_region ?_
                  refine WL_val rfl rfl rfl (R_assign rfl rfl) ?_
                  refine WL_nil ?_
                  refine WQ_code ?_
                  refine WC_block ?_
                  refine WC_loopF (G := Nat) [8,24,25,27,28,29,201,202,203,204,205,206,207,208,209,210,211,212,213,214,215,216,217,218,219,220,221,222,223,224,225,226,227,228,229,230,231,232] (fun j => j ≤ M) (fun j => [(24, .int .i64 (j : Int))]) (fun j => []) (fun j => M - j) (0) (Nat.zero_le _) leZ (pqY) ?_
                  rintro j hj
                  refine WC_seq ?_
                  refine WC_seq ?_
                  refine WC_region ?_
                  refine WL_val rfl rfl rfl (R_move rfl rfl) ?_
                  refine WL_val rfl rfl rfl (R_move rfl rfl) ?_
                  refine WL_val rfl rfl rfl (R_lss rfl rfl rfl) ?_
                  refine WL_nil ?_
                  refine WQ_code ?_
                  refine WC_dec rfl (fun c44 => ?_) (fun c44 => ?_)
                  · refine WC_skip ?_
                    refine WQ_code ?_
                    refine WC_seq ?_
                    refine WC_block ?_
                    refine WC_seq ?_
                    refine WC_region ?_
                    refine WL_val rfl rfl rfl (R_assign rfl rfl) ?_
                    refine WL_nil ?_
                    refine WQ_code ?_
                    refine WC_seq ?_
                    refine WC_seq ?_
                    refine WC_region ?_
                    refine WL_val rfl rfl rfl (R_move rfl rfl) ?_
                    refine WL_val rfl rfl rfl (R_len rfl Try.underlying32 rfl) ?_
                    refine WL_val rfl rfl rfl (R_move rfl rfl) ?_
                    refine WL_nil ?_
                    refine WQ_code ?_
                    refine WC_block ?_
                    refine WC_loopF (G := InW9) [25,27,208,209,210,211,212,213,214,215,216,217,218] (fun u => u.j ≤ y.q.length ∧ (u.b = true ↔ ∃ v ∈ y.q.take u.j, v = (j : Int))) (fun u => [(208, .int .i64 (u.j : Int)), (25, .bool u.b)]) (fun u => []) (fun u => y.q.length - u.j) (⟨0, false⟩) (⟨Nat.zero_le _, by simp⟩) leZ (pqY) ?_
                    rintro u ⟨huj, hub⟩
                    refine WC_seq ?_
                    refine WC_region ?_
                    refine WL_val rfl rfl rfl (R_lss rfl rfl rfl) ?_
                    refine WL_nil ?_
                    refine WQ_code ?_
                    refine WC_seq ?_
                    refine WC_dec rfl (fun c45 => ?_) (fun c45 => ?_)
                    · refine WC_skip ?_
                      refine WQ_code ?_
                      refine WC_seq ?_
                      refine WC_block ?_
                      refine WC_seq ?_
                      refine WC_region ?_
                      obtain ⟨v9, hx⟩ := exE (T := y.q) (i := u.j) (by omega)
                      obtain ⟨wb, hwb⟩ := (hyo).some_of (by omega)
                      refine WL_val rfl rfl rfl (R_indexS hwb rfl Try.underlying32 Try.sizeOf3 rfl rfl (by omega)) ?_
                      refine WL_val rfl rfl rfl (R_loadO hwb rfl sc3 rfl (mmY) (hyo.get encI1 hx (by omega) (j := 0) (by omega))) ?_
                      refine WL_val rfl rfl rfl (R_assign rfl rfl) ?_
                      refine WL_nil ?_
                      refine WQ_code ?_
                      refine WC_region ?_
                      refine WL_val rfl rfl rfl (R_move rfl rfl) ?_
                      refine WL_val rfl rfl rfl (R_move rfl rfl) ?_
                      refine WL_split (s := 213) rfl (fun c46 => ?_) (fun c46 => ?_)
                      · refine WL_skip rfl rfl rfl ?_
                        refine WL_skip rfl rfl rfl ?_
                        refine WL_skip rfl rfl rfl ?_
                        refine WL_val rfl rfl rfl (R_pickT rfl rfl rfl) ?_
                        refine WL_val rfl rfl rfl (R_assign rfl rfl) ?_
                        refine WL_nil ?_
                        refine WQ_code ?_
                        refine WC_region ?_
                        refine WL_val rfl rfl rfl (R_add rfl rfl rfl (by omega)) ?_
                        refine WL_val rfl rfl rfl (R_move rfl rfl) ?_
                        refine WL_nil ?_
                        refine WQ_nextF (⟨u.j + 1, true⟩) (⟨by dsimp only; omega, by dsimp only; rw [take_get hx]; obtain ⟨v8, hv8, e8⟩ := hub.1 (by assumption); exact ⟨fun _ => ⟨v8, List.mem_append_left _ hv8, e8⟩, fun _ => rfl⟩⟩) (by dsimp only; omega) leZ (psZ) rfl (pqY)
                      · refine WL_val rfl rfl rfl (R_move rfl rfl) ?_
                        refine WL_val rfl rfl rfl (R_move rfl rfl) ?_
                        refine WL_val rfl rfl rfl (R_eql rfl rfl rfl) ?_
                        refine WL_val rfl rfl rfl (R_pickF rfl rfl rfl) ?_
                        refine WL_val rfl rfl rfl (R_assign rfl rfl) ?_
                        refine WL_nil ?_
                        refine WQ_code ?_
                        refine WC_region ?_
                        refine WL_val rfl rfl rfl (R_add rfl rfl rfl (by omega)) ?_
                        refine WL_val rfl rfl rfl (R_move rfl rfl) ?_
                        refine WL_nil ?_
                        refine WQ_nextF (⟨u.j + 1, decide (v9 = (j : Int))⟩) (⟨by dsimp only; omega, by dsimp only; rw [take_get hx, decide_eq_true_eq]; exact ⟨fun e8 => ⟨v9, List.mem_append_right _ (List.mem_singleton.2 rfl), e8⟩, fun ⟨v8, hv8, e8⟩ => (List.mem_append.1 hv8).elim (fun h8 => absurd (hub.2 ⟨v8, h8, e8⟩) (by simp_all)) (fun h8 => (List.mem_singleton.1 h8) ▸ e8)⟩⟩) (by dsimp only; omega) leZ (psZ) rfl (pqY)
                    · rw [List.take_of_length_le (by omega)] at hub
                      refine WC_exit ?_
                      refine WQ_code ?_
                      refine WC_seq ?_
                      refine WC_region ?_
                      obtain ⟨x9, hx9⟩ := exE (T := y.s.sm) (i := j) (by omega)
                      have hst9 := stR_in hx9
                      have hin9 := in_state h2.ps hall2 hx9
                      rw [hq2] at hin9
                      have hb9 : u.b = decide (x9 = 2) := by rw [Bool.eq_iff_iff, hub, hin9]; simp
                      refine WL_val rfl rfl rfl (R_move rfl rfl) ?_
                      refine WL_val rfl rfl rfl (R_move rfl rfl) ?_
                      refine WL_do rfl rfl rfl (D_call (pk_state (y.N + 1) y.s m2 h2 (j : Int)) rfl rfl rfl rfl (pqY)) ?_
                      rintro _ _ ⟨_, ⟨rfl, rfl⟩, rfl⟩
                      rw [hst9]
                      refine WL_val rfl rfl rfl (R_move rfl rfl) ?_
                      refine WL_val rfl rfl rfl (R_extract rfl rfl rfl) ?_
                      refine WL_val rfl rfl rfl (R_extract rfl rfl rfl) ?_
                      refine WL_val rfl rfl rfl (R_assign rfl rfl) ?_
                      refine WL_val rfl rfl rfl (R_assign rfl rfl) ?_
                      refine WL_nil ?_
                      refine WQ_code ?_
                      refine WC_seq ?_
                      refine WC_region ?_
                      refine WL_val rfl rfl rfl (R_move rfl rfl) ?_
                      refine WL_val rfl rfl rfl (R_neq rfl rfl rfl) ?_
                      refine WL_set (s := 226) (v := .bool false) rfl (by simp) ?_
                      refine WL_val rfl rfl rfl (R_move rfl rfl) ?_
                      refine WL_val rfl rfl rfl (R_move rfl rfl) ?_
                      refine WL_val rfl rfl rfl (R_move rfl rfl) ?_
                      refine WL_val rfl rfl rfl (R_eql rfl rfl rfl) ?_
                      refine WL_val rfl rfl rfl (R_boolNe rfl Try.underlying4 rfl rfl) ?_
                      refine WL_set (s := 231) (v := .bool false) rfl (by rw [hb9]; simp) ?_
                      refine WL_val rfl rfl rfl (R_pickF rfl rfl rfl) ?_
                      refine WL_nil ?_
                      refine WQ_code ?_
                      refine WC_F rfl ?_
                      refine WC_skip ?_
                      refine WQ_code ?_
                      refine WC_region ?_
                      refine WL_val rfl rfl rfl (R_move rfl rfl) ?_
                      refine WL_val rfl rfl rfl (R_add rfl rfl rfl (by omega)) ?_
                      refine WL_val rfl rfl rfl (R_assign rfl rfl) ?_
                      refine WL_nil ?_
                      refine WQ_nextF (j + 1) (by omega) (by omega) leZ (psZ) rfl (pqY)
                  · refine WC_exit ?_
                    refine WQ_code ?_
                    refine WC_region ?_
                    refine WL_val rfl rfl rfl (R_add rfl rfl rfl (by omega)) ?_
                    refine WL_val rfl rfl rfl (R_move rfl rfl) ?_
                    refine WL_nil ?_
                    refine WQ_nextF (⟨y.k + 1, (y.N + 1), y.s, m2, y.q, y.ob, y.kk, y.c, y.pre, y.tl⟩) (⟨by dsimp only; omega, h2, by dsimp only; omega, rfl, hall2, hq2, hyo, hsl2⟩) (by dsimp only; omega) leZ (psZ) rfl (pqY)
                · refine WL_skip rfl rfl rfl ?_
                  refine WL_skip rfl rfl rfl ?_
                  refine WL_skip rfl rfl rfl ?_
                  refine WL_skip rfl rfl rfl ?_
                  refine WL_skip rfl rfl rfl ?_
                  refine WL_skip rfl rfl rfl ?_
                  refine WL_skip rfl rfl rfl ?_
                  refine WL_skip rfl rfl rfl ?_
                  refine WL_skip rfl rfl rfl ?_
                  refine WL_val rfl rfl rfl (R_pickF rfl rfl rfl) ?_
                  refine WL_val rfl rfl rfl (R_pickF rfl rfl rfl) ?_
                  refine WL_val rfl rfl rfl (R_move rfl rfl) ?_
                  refine WL_val rfl rfl rfl (R_move rfl rfl) ?_
                  refine WL_val rfl rfl rfl (R_loadA (vs := [_, _]) rfl ag25 rfl (mmY) rfl (atZ)) ?_
                  refine WL_val rfl rfl rfl (R_move rfl rfl) ?_
                  refine WL_do rfl rfl rfl (D_call (lwaits_okS (y.N + 1) y.s m2 h2 one hv1 y.q y.ob y.kk y.c y.pre y.tl hyo hw2) rfl rfl rfl rfl (pqY)) ?_
                  rintro _ _ ⟨_, ⟨rfl, rfl⟩, rfl⟩
                  refine WL_val rfl rfl rfl (R_not rfl rfl) ?_
                  refine WL_val rfl rfl rfl (R_pickF rfl rfl rfl) ?_
                  refine WL_nil ?_
                  refine WQ_code ?_
                  refine WC_F rfl ?_
                  refine WC_skip ?_
                  refine WQ_code ?_
                  refine WC_seq ?_
                  refine WC_region ?_
                  refine WL_val rfl rfl rfl (R_assign rfl rfl) ?_
                  refine WL_nil ?_
                  refine WQ_code ?_
                  refine WC_block ?_
                  refine WC_loopF (G := Nat) [8,24,25,27,28,29,201,202,203,204,205,206,207,208,209,210,211,212,213,214,215,216,217,218,219,220,221,222,223,224,225,226,227,228,229,230,231,232] (fun j => j ≤ M) (fun j => [(24, .int .i64 (j : Int))]) (fun j => []) (fun j => M - j) (0) (Nat.zero_le _) leZ (pqY) ?_
                  rintro j hj
                  refine WC_seq ?_
                  refine WC_seq ?_
                  refine WC_region ?_
                  refine WL_val rfl rfl rfl (R_move rfl rfl) ?_
                  refine WL_val rfl rfl rfl (R_move rfl rfl) ?_
                  refine WL_val rfl rfl rfl (R_lss rfl rfl rfl) ?_
                  refine WL_nil ?_
                  refine WQ_code ?_
                  refine WC_dec rfl (fun c47 => ?_) (fun c47 => ?_)
                  · refine WC_skip ?_
                    refine WQ_code ?_
                    refine WC_seq ?_
                    refine WC_block ?_
                    refine WC_seq ?_
                    refine WC_region ?_
                    refine WL_val rfl rfl rfl (R_assign rfl rfl) ?_
                    refine WL_nil ?_
                    refine WQ_code ?_
                    refine WC_seq ?_
                    refine WC_seq ?_
                    refine WC_region ?_
                    refine WL_val rfl rfl rfl (R_move rfl rfl) ?_
                    refine WL_val rfl rfl rfl (R_len rfl Try.underlying32 rfl) ?_
                    refine WL_val rfl rfl rfl (R_move rfl rfl) ?_
                    refine WL_nil ?_
                    refine WQ_code ?_
                    refine WC_block ?_
                    refine WC_loopF (G := InW9) [25,27,208,209,210,211,212,213,214,215,216,217,218] (fun u => u.j ≤ y.q.length ∧ (u.b = true ↔ ∃ v ∈ y.q.take u.j, v = (j : Int))) (fun u => [(208, .int .i64 (u.j : Int)), (25, .bool u.b)]) (fun u => []) (fun u => y.q.length - u.j) (⟨0, false⟩) (⟨Nat.zero_le _, by simp⟩) leZ (pqY) ?_
                    rintro u ⟨huj, hub⟩
                    refine WC_seq ?_
                    refine WC_region ?_
                    refine WL_val rfl rfl rfl (R_lss rfl rfl rfl) ?_
                    refine WL_nil ?_
                    refine WQ_code ?_
                    refine WC_seq ?_
                    refine WC_dec rfl (fun c48 => ?_) (fun c48 => ?_)
                    · refine WC_skip ?_
                      refine WQ_code ?_
                      refine WC_seq ?_
                      refine WC_block ?_
                      refine WC_seq ?_
                      refine WC_region ?_
                      obtain ⟨v9, hx⟩ := exE (T := y.q) (i := u.j) (by omega)
                      obtain ⟨wb, hwb⟩ := (hyo).some_of (by omega)
                      refine WL_val rfl rfl rfl (R_indexS hwb rfl Try.underlying32 Try.sizeOf3 rfl rfl (by omega)) ?_
                      refine WL_val rfl rfl rfl (R_loadO hwb rfl sc3 rfl (mmY) (hyo.get encI1 hx (by omega) (j := 0) (by omega))) ?_
                      refine WL_val rfl rfl rfl (R_assign rfl rfl) ?_
                      refine WL_nil ?_
                      refine WQ_code ?_
                      refine WC_region ?_
                      refine WL_val rfl rfl rfl (R_move rfl rfl) ?_
                      refine WL_val rfl rfl rfl (R_move rfl rfl) ?_
                      refine WL_split (s := 213) rfl (fun c49 => ?_) (fun c49 => ?_)
                      · refine WL_skip rfl rfl rfl ?_
                        refine WL_skip rfl rfl rfl ?_
                        refine WL_skip rfl rfl rfl ?_
                        refine WL_val rfl rfl rfl (R_pickT rfl rfl rfl) ?_
                        refine WL_val rfl rfl rfl (R_assign rfl rfl) ?_
                        refine WL_nil ?_
                        refine WQ_code ?_
                        refine WC_region ?_
                        refine WL_val rfl rfl rfl (R_add rfl rfl rfl (by omega)) ?_
                        refine WL_val rfl rfl rfl (R_move rfl rfl) ?_
                        refine WL_nil ?_
                        refine WQ_nextF (⟨u.j + 1, true⟩) (⟨by dsimp only; omega, by dsimp only; rw [take_get hx]; obtain ⟨v8, hv8, e8⟩ := hub.1 (by assumption); exact ⟨fun _ => ⟨v8, List.mem_append_left _ hv8, e8⟩, fun _ => rfl⟩⟩) (by dsimp only; omega) leZ (psZ) rfl (pqY)
                      · refine WL_val rfl rfl rfl (R_move rfl rfl) ?_
                        refine WL_val rfl rfl rfl (R_move rfl rfl) ?_
                        refine WL_val rfl rfl rfl (R_eql rfl rfl rfl) ?_
                        refine WL_val rfl rfl rfl (R_pickF rfl rfl rfl) ?_
                        refine WL_val rfl rfl rfl (R_assign rfl rfl) ?_
                        refine WL_nil ?_
                        refine WQ_code ?_
                        refine WC_region ?_
                        refine WL_val rfl rfl rfl (R_add rfl rfl rfl (by omega)) ?_
                        refine WL_val rfl rfl rfl (R_move rfl rfl) ?_
                        refine WL_nil ?_
                        refine WQ_nextF (⟨u.j + 1, decide (v9 = (j : Int))⟩) (⟨by dsimp only; omega, by dsimp only; rw [take_get hx, decide_eq_true_eq]; exact ⟨fun e8 => ⟨v9, List.mem_append_right _ (List.mem_singleton.2 rfl), e8⟩, fun ⟨v8, hv8, e8⟩ => (List.mem_append.1 hv8).elim (fun h8 => absurd (hub.2 ⟨v8, h8, e8⟩) (by simp_all)) (fun h8 => (List.mem_singleton.1 h8) ▸ e8)⟩⟩) (by dsimp only; omega) leZ (psZ) rfl (pqY)
                    · rw [List.take_of_length_le (by omega)] at hub
                      refine WC_exit ?_
                      refine WQ_code ?_
                      refine WC_seq ?_
                      refine WC_region ?_
                      obtain ⟨x9, hx9⟩ := exE (T := y.s.sm) (i := j) (by omega)
                      have hst9 := stR_in hx9
                      have hin9 := in_state h2.ps hall2 hx9
                      rw [hq2] at hin9
                      have hb9 : u.b = decide (x9 = 2) := by rw [Bool.eq_iff_iff, hub, hin9]; simp
                      refine WL_val rfl rfl rfl (R_move rfl rfl) ?_
                      refine WL_val rfl rfl rfl (R_move rfl rfl) ?_
                      refine WL_do rfl rfl rfl (D_call (pk_state (y.N + 1) y.s m2 h2 (j : Int)) rfl rfl rfl rfl (pqY)) ?_
                      rintro _ _ ⟨_, ⟨rfl, rfl⟩, rfl⟩
                      rw [hst9]
                      refine WL_val rfl rfl rfl (R_move rfl rfl) ?_
                      refine WL_val rfl rfl rfl (R_extract rfl rfl rfl) ?_
                      refine WL_val rfl rfl rfl (R_extract rfl rfl rfl) ?_
                      refine WL_val rfl rfl rfl (R_assign rfl rfl) ?_
                      refine WL_val rfl rfl rfl (R_assign rfl rfl) ?_
                      refine WL_nil ?_
                      refine WQ_code ?_
                      refine WC_seq ?_
                      refine WC_region ?_
                      refine WL_val rfl rfl rfl (R_move rfl rfl) ?_
                      refine WL_val rfl rfl rfl (R_neq rfl rfl rfl) ?_
                      refine WL_set (s := 226) (v := .bool false) rfl (by simp) ?_
                      refine WL_val rfl rfl rfl (R_move rfl rfl) ?_
                      refine WL_val rfl rfl rfl (R_move rfl rfl) ?_
                      refine WL_val rfl rfl rfl (R_move rfl rfl) ?_
                      refine WL_val rfl rfl rfl (R_eql rfl rfl rfl) ?_
                      refine WL_val rfl rfl rfl (R_boolNe rfl Try.underlying4 rfl rfl) ?_
                      refine WL_set (s := 231) (v := .bool false) rfl (by rw [hb9]; simp) ?_
                      refine WL_val rfl rfl rfl (R_pickF rfl rfl rfl) ?_
                      refine WL_nil ?_
                      refine WQ_code ?_
                      refine WC_F rfl ?_
                      refine WC_skip ?_
                      refine WQ_code ?_
                      refine WC_region ?_
                      refine WL_val rfl rfl rfl (R_move rfl rfl) ?_
                      refine WL_val rfl rfl rfl (R_add rfl rfl rfl (by omega)) ?_
                      refine WL_val rfl rfl rfl (R_assign rfl rfl) ?_
                      refine WL_nil ?_
                      refine WQ_nextF (j + 1) (by omega) (by omega) leZ (psZ) rfl (pqY)
                  · refine WC_exit ?_
                    refine WQ_code ?_
                    refine WC_region ?_
                    refine WL_val rfl rfl rfl (R_add rfl rfl rfl (by omega)) ?_
                    refine WL_val rfl rfl rfl (R_move rfl rfl) ?_
                    refine WL_nil ?_
                    refine WQ_nextF (⟨y.k + 1, (y.N + 1), y.s, m2, y.q, y.ob, y.kk, y.c, y.pre, y.tl⟩) (⟨by dsimp only; omega, h2, by dsimp only; omega, rfl, hall2, hq2, hyo, hsl2⟩) (by dsimp only; omega) leZ (psZ) rfl (pqY)
              · have e9 := wakeR_some y.s hv1 (v := v) (by rw [hq, hqc]; rfl)
                have ew : y.s.wake one = y.s.out v := by unfold PS.wake; rw [e9, if_pos rfl]
                refine WC_skip ?_
                refine WQ_code ?_
                refine WC_dT rfl c42 ?_
                refine WC_seq ?_
                refine WC_region ?_
                refine WL_val rfl rfl rfl (R_move rfl rfl) ?_
                refine WL_val rfl rfl rfl (R_loadA (vs := [_, _]) rfl ag25 rfl (mmY) rfl (atZ)) ?_
                refine WL_do rfl rfl rfl (D_call (pk_wake y.N y.s y.m hy (by omega) one) rfl rfl rfl rfl (pqY)) ?_
                rintro _ _ ⟨_, ⟨m2, rfl, rfl, hp2, h2⟩, rfl⟩
                rw [e9]
                rw [ew] at h2
                rw [← hp2]
                refine WL_val rfl rfl rfl (R_move rfl rfl) ?_
                refine WL_val rfl rfl rfl (R_extract rfl rfl rfl) ?_
                refine WL_val rfl rfl rfl (R_extract rfl rfl rfl) ?_
                refine WL_val rfl rfl rfl (R_assign rfl rfl) ?_
                refine WL_val rfl rfl rfl (R_assign rfl rfl) ?_
                refine WL_nil ?_
                refine WQ_code ?_
                refine WC_seq ?_
                refine WC_seq ?_
                refine WC_region ?_
                obtain ⟨wb, hwb⟩ := hyo.some_of (by rw [hqc]; simp)
                refine WL_val rfl rfl rfl (R_move rfl rfl) ?_
                refine WL_val rfl rfl rfl (R_eql rfl rfl rfl) ?_
                refine WL_set (s := 120) (v := .bool true) rfl (by simp) ?_
                refine WL_val rfl rfl rfl (R_move rfl rfl) ?_
                refine WL_val rfl rfl rfl (R_len rfl Try.underlying32 rfl) ?_
                refine WL_val rfl rfl rfl (R_gtr rfl rfl rfl) ?_
                refine WL_set (s := 123) (v := .bool true) rfl (by simp [hqc]) ?_
                refine WL_val rfl rfl rfl (R_boolNe rfl Try.underlying4 rfl rfl) ?_
                refine WL_set (s := 124) (v := .bool false) rfl (by rfl) ?_
                refine WL_val rfl rfl rfl (R_move rfl rfl) ?_
                refine WL_val rfl rfl rfl (R_move rfl rfl) ?_
                refine WL_val rfl rfl rfl (R_eql rfl rfl rfl) ?_
                refine WL_set (s := 127) (v := .bool true) rfl (by simp) ?_
                refine WL_val rfl rfl rfl (R_move rfl rfl) ?_
                refine WL_val rfl rfl rfl (R_move rfl rfl) ?_
                refine WL_val rfl rfl rfl (R_move rfl rfl) ?_
                refine WL_val rfl rfl rfl (R_indexS (i := 0) hwb rfl Try.underlying32 Try.sizeOf3 rfl rfl (by rw [hqc]; simp)) ?_
                refine WL_val rfl rfl rfl (R_loadO (v := .int .i64 v) hwb rfl sc3 rfl (mmY) (hyo.get encI1 (show y.q[0]? = some v by rw [hqc]; rfl) (by rw [hqc]; simp) (j := 0) (by omega))) ?_
                refine WL_val rfl rfl rfl (R_neq rfl rfl rfl) ?_
                refine WL_set (s := 133) (v := .bool false) rfl (by simp) ?_
                refine WL_val rfl rfl rfl (R_pickT rfl rfl rfl) ?_
                refine WL_val rfl rfl rfl (R_pickF rfl rfl rfl) ?_
                refine WL_nil ?_
                refine WQ_code ?_
                refine WC_F rfl ?_
                refine WC_skip ?_
                refine WQ_code ?_
                refine WC_seq ?_
                refine WC_region ?_
                refine WL_val rfl rfl rfl (R_move rfl rfl) ?_
                refine WL_val rfl rfl rfl (R_eql rfl rfl rfl) ?_
                refine WL_set (s := 137) (v := .bool true) rfl (by simp) ?_
                refine WL_nil ?_
                refine WQ_code ?_
                refine WC_T rfl ?_
                refine WC_region ?_
                refine WL_val rfl rfl rfl (R_move rfl rfl) ?_
                refine WL_val rfl rfl rfl (R_cut1 (m := q9.length) hwb rfl Try.underlying32 Try.sizeOf3 rfl rfl (by rw [hqc]; rfl)) ?_
                have ownC := hyo.cut (ys := [Value.int .i64 v]) (zs := ivs q9) (m := q9.length) (by rw [hqc]; rfl) rfl (by rw [hqc]; rfl)
                rw [show y.pre ++ (ivs y.q ++ y.tl) = (y.pre ++ [Value.int .i64 v]) ++ (ivs q9 ++ y.tl) from by rw [hqc]; simp]
                refine WL_val rfl rfl rfl (R_assign rfl rfl) ?_
                refine WL_nil ?_
                refine WQ_code ?_
                refine WC_seq ?_
                refine WC_region ?_
                have hall2 : ∀ w0 ∈ (y.s.out v).W, w0.at_ = one := wOut_sub hall
                have hq2 : wAt (y.s.out v).W one = q9 := wAt_pop hy.ps (hq.trans hqc)
                have hw2 : (y.s.out v).waiting one = q9 := (waiting_v hv1).trans hq2
                have hql2 : q9.length ≤ 64 := by rw [← hq2]; exact Nat.le_trans (wAt_len _ _) h2.ps.few
                have hsl2 : (y.s.out v).sm.length = M := by rw [out_len]; exact hsl
                refine WL_val rfl rfl rfl (R_move rfl rfl) ?_
                refine WL_val rfl rfl rfl (R_loadA (vs := [_, _]) rfl ag25 rfl (mmY) rfl (atZ)) ?_
                refine WL_do rfl rfl rfl (D_call (pk_waiting (y.N + 1) (y.s.out v) m2 h2 two) rfl rfl rfl rfl (pqY)) ?_
                rintro _ _ ⟨_, ⟨o2, c2, t2, rfl, own2, rfl⟩, rfl⟩
                refine WL_val rfl rfl rfl (R_move rfl rfl) ?_
                refine WL_val rfl rfl rfl (R_extract rfl rfl rfl) ?_
                refine WL_val rfl rfl rfl (R_extract rfl rfl rfl) ?_
                refine WL_val rfl rfl rfl (R_assign rfl rfl) ?_
                refine WL_val rfl rfl rfl (R_assign rfl rfl) ?_
                refine WL_nil ?_
                refine WQ_code ?_
                refine WC_seq ?_
                refine WC_seq ?_
                refine WC_region ?_
                refine WL_val rfl rfl rfl (R_move rfl rfl) ?_
                refine WL_val rfl rfl rfl (R_neq rfl rfl rfl) ?_
                refine WL_set (s := 177) (v := .bool false) rfl (by simp [hsp2]) ?_
                refine WL_val rfl rfl rfl (R_move rfl rfl) ?_
                refine WL_val rfl rfl rfl (R_loadA (vs := [_, _]) rfl ag25 rfl (mmY) rfl (atZ)) ?_
                refine WL_val rfl rfl rfl (R_loadA (vs := [_, _]) rfl ag25 rfl (mmY) rfl (atZ)) ?_
                refine WL_val rfl rfl rfl (R_sne25 rfl rfl rfl rfl) ?_
                refine WL_val rfl rfl rfl (R_move rfl rfl) ?_
                refine WL_splitD (s := 182) rfl (fun c50 => ?_) (fun c50 => ?_)
                · have hne : one ≠ two := fun e => c50 (by rw [e]; exact ⟨rfl, rfl⟩)
                  have hwA : y.s.waiting two = [] := wait_none hall hne
                  have hwB := wait_none hall2 hne
                  rw [hwA] at own1
                  rw [hwB] at own2
                  rw [hwA]
                  try rw [hwB]
                  refine WL_val rfl rfl rfl (R_move rfl rfl) ?_
                  refine WL_val rfl rfl rfl (R_len rfl Try.underlying32 rfl) ?_
                  refine WL_val rfl rfl rfl (R_neq rfl rfl rfl) ?_
                  refine WL_set (s := 185) (v := .bool false) rfl (by simp) ?_
                  refine WL_val rfl rfl rfl (R_move rfl rfl) ?_
                  refine WL_val rfl rfl rfl (R_move rfl rfl) ?_
                  refine WL_val rfl rfl rfl (R_move rfl rfl) ?_
                  refine WL_do rfl rfl rfl (D_call (same_ok [] (by decide) o1 c1 t1 o2 c2 t2 own1 own2) rfl rfl rfl rfl (pqY)) ?_
                  rintro _ _ ⟨_, ⟨rfl, rfl⟩, rfl⟩
                  refine WL_val rfl rfl rfl (R_not rfl rfl) ?_
                  refine WL_val rfl rfl rfl (R_pickF rfl rfl rfl) ?_
                  refine WL_val rfl rfl rfl (R_pickT rfl rfl rfl) ?_
                  refine WL_val rfl rfl rfl (R_pickF rfl rfl rfl) ?_
                  refine WL_val rfl rfl rfl (R_move rfl rfl) ?_
                  refine WL_val rfl rfl rfl (R_move rfl rfl) ?_
                  refine WL_val rfl rfl rfl (R_loadA (vs := [_, _]) rfl ag25 rfl (mmY) rfl (atZ)) ?_
                  refine WL_val rfl rfl rfl (R_move rfl rfl) ?_
                  refine WL_do rfl rfl rfl (D_call (lwaits_okS (y.N + 1) (y.s.out v) m2 h2 one hv1 q9 y.ob (if y.c = 1 then y.kk else y.kk + 1) (y.c - 1) (y.pre ++ [.int .i64 v]) y.tl ownC hw2) rfl rfl rfl rfl (pqY)) ?_
                  rintro _ _ ⟨_, ⟨rfl, rfl⟩, rfl⟩
                  refine WL_val rfl rfl rfl (R_not rfl rfl) ?_
                  refine WL_val rfl rfl rfl (R_pickF rfl rfl rfl) ?_
                  refine WL_nil ?_
                  refine WQ_code ?_
                  refine WC_F rfl ?_
                  refine WC_skip ?_
                  refine WQ_code ?_
                  refine WC_seq ?_
                  refine WC_region ?_
                  refine WL_val rfl rfl rfl (R_assign rfl rfl) ?_
                  refine WL_nil ?_
                  refine WQ_code ?_
                  refine WC_block ?_
                  refine WC_loopF (G := Nat) [8,24,25,27,28,29,201,202,203,204,205,206,207,208,209,210,211,212,213,214,215,216,217,218,219,220,221,222,223,224,225,226,227,228,229,230,231,232] (fun j => j ≤ M) (fun j => [(24, .int .i64 (j : Int))]) (fun j => []) (fun j => M - j) (0) (Nat.zero_le _) leZ (pqY) ?_
                  rintro j hj
                  refine WC_seq ?_
                  refine WC_seq ?_
                  refine WC_region ?_
                  refine WL_val rfl rfl rfl (R_move rfl rfl) ?_
                  refine WL_val rfl rfl rfl (R_move rfl rfl) ?_
                  refine WL_val rfl rfl rfl (R_lss rfl rfl rfl) ?_
                  refine WL_nil ?_
                  refine WQ_code ?_
                  refine WC_dec rfl (fun c51 => ?_) (fun c51 => ?_)
                  · refine WC_skip ?_
                    refine WQ_code ?_
                    refine WC_seq ?_
                    refine WC_block ?_
                    refine WC_seq ?_
                    refine WC_region ?_
                    refine WL_val rfl rfl rfl (R_assign rfl rfl) ?_
                    refine WL_nil ?_
                    refine WQ_code ?_
                    refine WC_seq ?_
                    refine WC_seq ?_
                    refine WC_region ?_
                    refine WL_val rfl rfl rfl (R_move rfl rfl) ?_
                    refine WL_val rfl rfl rfl (R_len rfl Try.underlying32 rfl) ?_
                    refine WL_val rfl rfl rfl (R_move rfl rfl) ?_
                    refine WL_nil ?_
                    refine WQ_code ?_
                    refine WC_block ?_
                    refine WC_loopF (G := InW9) [25,27,208,209,210,211,212,213,214,215,216,217,218] (fun u => u.j ≤ q9.length ∧ (u.b = true ↔ ∃ v ∈ q9.take u.j, v = (j : Int))) (fun u => [(208, .int .i64 (u.j : Int)), (25, .bool u.b)]) (fun u => []) (fun u => q9.length - u.j) (⟨0, false⟩) (⟨Nat.zero_le _, by simp⟩) leZ (pqY) ?_
                    rintro u ⟨huj, hub⟩
                    refine WC_seq ?_
                    refine WC_region ?_
                    refine WL_val rfl rfl rfl (R_lss rfl rfl rfl) ?_
                    refine WL_nil ?_
                    refine WQ_code ?_
                    refine WC_seq ?_
                    refine WC_dec rfl (fun c52 => ?_) (fun c52 => ?_)
                    · refine WC_skip ?_
                      refine WQ_code ?_
                      refine WC_seq ?_
                      refine WC_block ?_
                      refine WC_seq ?_
                      refine WC_region ?_
                      obtain ⟨v9, hx⟩ := exE (T := q9) (i := u.j) (by omega)
                      obtain ⟨wb, hwb⟩ := (ownC).some_of (by omega)
                      refine WL_val rfl rfl rfl (R_indexS hwb rfl Try.underlying32 Try.sizeOf3 rfl rfl (by omega)) ?_
                      refine WL_val rfl rfl rfl (R_loadO hwb rfl sc3 rfl (mmY) (ownC.get encI1 hx (by omega) (j := 0) (by omega))) ?_
                      refine WL_val rfl rfl rfl (R_assign rfl rfl) ?_
                      refine WL_nil ?_
                      refine WQ_code ?_
                      refine WC_region ?_
                      refine WL_val rfl rfl rfl (R_move rfl rfl) ?_
                      refine WL_val rfl rfl rfl (R_move rfl rfl) ?_
                      refine WL_split (s := 213) rfl (fun c53 => ?_) (fun c53 => ?_)
                      · refine WL_skip rfl rfl rfl ?_
                        refine WL_skip rfl rfl rfl ?_
                        refine WL_skip rfl rfl rfl ?_
                        refine WL_val rfl rfl rfl (R_pickT rfl rfl rfl) ?_
                        refine WL_val rfl rfl rfl (R_assign rfl rfl) ?_
                        refine WL_nil ?_
                        refine WQ_code ?_
                        refine WC_region ?_
                        refine WL_val rfl rfl rfl (R_add rfl rfl rfl (by omega)) ?_
                        refine WL_val rfl rfl rfl (R_move rfl rfl) ?_
                        refine WL_nil ?_
                        refine WQ_nextF (⟨u.j + 1, true⟩) (⟨by dsimp only; omega, by dsimp only; rw [take_get hx]; obtain ⟨v8, hv8, e8⟩ := hub.1 (by assumption); exact ⟨fun _ => ⟨v8, List.mem_append_left _ hv8, e8⟩, fun _ => rfl⟩⟩) (by dsimp only; omega) leZ (psZ) rfl (pqY)
                      · refine WL_val rfl rfl rfl (R_move rfl rfl) ?_
                        refine WL_val rfl rfl rfl (R_move rfl rfl) ?_
                        refine WL_val rfl rfl rfl (R_eql rfl rfl rfl) ?_
                        refine WL_val rfl rfl rfl (R_pickF rfl rfl rfl) ?_
                        refine WL_val rfl rfl rfl (R_assign rfl rfl) ?_
                        refine WL_nil ?_
                        refine WQ_code ?_
                        refine WC_region ?_
                        refine WL_val rfl rfl rfl (R_add rfl rfl rfl (by omega)) ?_
                        refine WL_val rfl rfl rfl (R_move rfl rfl) ?_
                        refine WL_nil ?_
                        refine WQ_nextF (⟨u.j + 1, decide (v9 = (j : Int))⟩) (⟨by dsimp only; omega, by dsimp only; rw [take_get hx, decide_eq_true_eq]; exact ⟨fun e8 => ⟨v9, List.mem_append_right _ (List.mem_singleton.2 rfl), e8⟩, fun ⟨v8, hv8, e8⟩ => (List.mem_append.1 hv8).elim (fun h8 => absurd (hub.2 ⟨v8, h8, e8⟩) (by simp_all)) (fun h8 => (List.mem_singleton.1 h8) ▸ e8)⟩⟩) (by dsimp only; omega) leZ (psZ) rfl (pqY)
                    · rw [List.take_of_length_le (by omega)] at hub
                      refine WC_exit ?_
                      refine WQ_code ?_
                      refine WC_seq ?_
                      refine WC_region ?_
                      obtain ⟨x9, hx9⟩ := exE (T := (y.s.out v).sm) (i := j) (by omega)
                      have hst9 := stR_in hx9
                      have hin9 := in_state h2.ps hall2 hx9
                      rw [hq2] at hin9
                      have hb9 : u.b = decide (x9 = 2) := by rw [Bool.eq_iff_iff, hub, hin9]; simp
                      refine WL_val rfl rfl rfl (R_move rfl rfl) ?_
                      refine WL_val rfl rfl rfl (R_move rfl rfl) ?_
                      refine WL_do rfl rfl rfl (D_call (pk_state (y.N + 1) (y.s.out v) m2 h2 (j : Int)) rfl rfl rfl rfl (pqY)) ?_
                      rintro _ _ ⟨_, ⟨rfl, rfl⟩, rfl⟩
                      rw [hst9]
                      refine WL_val rfl rfl rfl (R_move rfl rfl) ?_
                      refine WL_val rfl rfl rfl (R_extract rfl rfl rfl) ?_
                      refine WL_val rfl rfl rfl (R_extract rfl rfl rfl) ?_
                      refine WL_val rfl rfl rfl (R_assign rfl rfl) ?_
                      refine WL_val rfl rfl rfl (R_assign rfl rfl) ?_
                      refine WL_nil ?_
                      refine WQ_code ?_
                      refine WC_seq ?_
                      refine WC_region ?_
                      refine WL_val rfl rfl rfl (R_move rfl rfl) ?_
                      refine WL_val rfl rfl rfl (R_neq rfl rfl rfl) ?_
                      refine WL_set (s := 226) (v := .bool false) rfl (by simp) ?_
                      refine WL_val rfl rfl rfl (R_move rfl rfl) ?_
                      refine WL_val rfl rfl rfl (R_move rfl rfl) ?_
                      refine WL_val rfl rfl rfl (R_move rfl rfl) ?_
                      refine WL_val rfl rfl rfl (R_eql rfl rfl rfl) ?_
                      refine WL_val rfl rfl rfl (R_boolNe rfl Try.underlying4 rfl rfl) ?_
                      refine WL_set (s := 231) (v := .bool false) rfl (by rw [hb9]; simp) ?_
                      refine WL_val rfl rfl rfl (R_pickF rfl rfl rfl) ?_
                      refine WL_nil ?_
                      refine WQ_code ?_
                      refine WC_F rfl ?_
                      refine WC_skip ?_
                      refine WQ_code ?_
                      refine WC_region ?_
                      refine WL_val rfl rfl rfl (R_move rfl rfl) ?_
                      refine WL_val rfl rfl rfl (R_add rfl rfl rfl (by omega)) ?_
                      refine WL_val rfl rfl rfl (R_assign rfl rfl) ?_
                      refine WL_nil ?_
                      refine WQ_nextF (j + 1) (by omega) (by omega) leZ (psZ) rfl (pqY)
                  · refine WC_exit ?_
                    refine WQ_code ?_
                    refine WC_region ?_
                    refine WL_val rfl rfl rfl (R_add rfl rfl rfl (by omega)) ?_
                    refine WL_val rfl rfl rfl (R_move rfl rfl) ?_
                    refine WL_nil ?_
                    refine WQ_nextF (⟨y.k + 1, (y.N + 1), (y.s.out v), m2, q9, y.ob, (if y.c = 1 then y.kk else y.kk + 1), y.c - 1, y.pre ++ [.int .i64 v], y.tl⟩) (⟨by dsimp only; omega, h2, by dsimp only; omega, rfl, hall2, hq2, ownC, hsl2⟩) (by dsimp only; omega) leZ (psZ) rfl (pqY)
                · refine WL_skip rfl rfl rfl ?_
                  refine WL_skip rfl rfl rfl ?_
                  refine WL_skip rfl rfl rfl ?_
                  refine WL_skip rfl rfl rfl ?_
                  refine WL_skip rfl rfl rfl ?_
                  refine WL_skip rfl rfl rfl ?_
                  refine WL_skip rfl rfl rfl ?_
                  refine WL_skip rfl rfl rfl ?_
                  refine WL_skip rfl rfl rfl ?_
                  refine WL_val rfl rfl rfl (R_pickF rfl rfl rfl) ?_
                  refine WL_val rfl rfl rfl (R_pickF rfl rfl rfl) ?_
                  refine WL_val rfl rfl rfl (R_move rfl rfl) ?_
                  refine WL_val rfl rfl rfl (R_move rfl rfl) ?_
                  refine WL_val rfl rfl rfl (R_loadA (vs := [_, _]) rfl ag25 rfl (mmY) rfl (atZ)) ?_
                  refine WL_val rfl rfl rfl (R_move rfl rfl) ?_
                  refine WL_do rfl rfl rfl (D_call (lwaits_okS (y.N + 1) (y.s.out v) m2 h2 one hv1 q9 y.ob (if y.c = 1 then y.kk else y.kk + 1) (y.c - 1) (y.pre ++ [.int .i64 v]) y.tl ownC hw2) rfl rfl rfl rfl (pqY)) ?_
                  rintro _ _ ⟨_, ⟨rfl, rfl⟩, rfl⟩
                  refine WL_val rfl rfl rfl (R_not rfl rfl) ?_
                  refine WL_val rfl rfl rfl (R_pickF rfl rfl rfl) ?_
                  refine WL_nil ?_
                  refine WQ_code ?_
                  refine WC_F rfl ?_
                  refine WC_skip ?_
                  refine WQ_code ?_
                  refine WC_seq ?_
                  refine WC_region ?_
                  refine WL_val rfl rfl rfl (R_assign rfl rfl) ?_
                  refine WL_nil ?_
                  refine WQ_code ?_
                  refine WC_block ?_
                  refine WC_loopF (G := Nat) [8,24,25,27,28,29,201,202,203,204,205,206,207,208,209,210,211,212,213,214,215,216,217,218,219,220,221,222,223,224,225,226,227,228,229,230,231,232] (fun j => j ≤ M) (fun j => [(24, .int .i64 (j : Int))]) (fun j => []) (fun j => M - j) (0) (Nat.zero_le _) leZ (pqY) ?_
                  rintro j hj
                  refine WC_seq ?_
                  refine WC_seq ?_
                  refine WC_region ?_
                  refine WL_val rfl rfl rfl (R_move rfl rfl) ?_
                  refine WL_val rfl rfl rfl (R_move rfl rfl) ?_
                  refine WL_val rfl rfl rfl (R_lss rfl rfl rfl) ?_
                  refine WL_nil ?_
                  refine WQ_code ?_
                  refine WC_dec rfl (fun c54 => ?_) (fun c54 => ?_)
                  · refine WC_skip ?_
                    refine WQ_code ?_
                    refine WC_seq ?_
                    refine WC_block ?_
                    refine WC_seq ?_
                    refine WC_region ?_
                    refine WL_val rfl rfl rfl (R_assign rfl rfl) ?_
                    refine WL_nil ?_
                    refine WQ_code ?_
                    refine WC_seq ?_
                    refine WC_seq ?_
                    refine WC_region ?_
                    refine WL_val rfl rfl rfl (R_move rfl rfl) ?_
                    refine WL_val rfl rfl rfl (R_len rfl Try.underlying32 rfl) ?_
                    refine WL_val rfl rfl rfl (R_move rfl rfl) ?_
                    refine WL_nil ?_
                    refine WQ_code ?_
                    refine WC_block ?_
                    refine WC_loopF (G := InW9) [25,27,208,209,210,211,212,213,214,215,216,217,218] (fun u => u.j ≤ q9.length ∧ (u.b = true ↔ ∃ v ∈ q9.take u.j, v = (j : Int))) (fun u => [(208, .int .i64 (u.j : Int)), (25, .bool u.b)]) (fun u => []) (fun u => q9.length - u.j) (⟨0, false⟩) (⟨Nat.zero_le _, by simp⟩) leZ (pqY) ?_
                    rintro u ⟨huj, hub⟩
                    refine WC_seq ?_
                    refine WC_region ?_
                    refine WL_val rfl rfl rfl (R_lss rfl rfl rfl) ?_
                    refine WL_nil ?_
                    refine WQ_code ?_
                    refine WC_seq ?_
                    refine WC_dec rfl (fun c55 => ?_) (fun c55 => ?_)
                    · refine WC_skip ?_
                      refine WQ_code ?_
                      refine WC_seq ?_
                      refine WC_block ?_
                      refine WC_seq ?_
                      refine WC_region ?_
                      obtain ⟨v9, hx⟩ := exE (T := q9) (i := u.j) (by omega)
                      obtain ⟨wb, hwb⟩ := (ownC).some_of (by omega)
                      refine WL_val rfl rfl rfl (R_indexS hwb rfl Try.underlying32 Try.sizeOf3 rfl rfl (by omega)) ?_
                      refine WL_val rfl rfl rfl (R_loadO hwb rfl sc3 rfl (mmY) (ownC.get encI1 hx (by omega) (j := 0) (by omega))) ?_
                      refine WL_val rfl rfl rfl (R_assign rfl rfl) ?_
                      refine WL_nil ?_
                      refine WQ_code ?_
                      refine WC_region ?_
                      refine WL_val rfl rfl rfl (R_move rfl rfl) ?_
                      refine WL_val rfl rfl rfl (R_move rfl rfl) ?_
                      refine WL_split (s := 213) rfl (fun c56 => ?_) (fun c56 => ?_)
                      · refine WL_skip rfl rfl rfl ?_
                        refine WL_skip rfl rfl rfl ?_
                        refine WL_skip rfl rfl rfl ?_
                        refine WL_val rfl rfl rfl (R_pickT rfl rfl rfl) ?_
                        refine WL_val rfl rfl rfl (R_assign rfl rfl) ?_
                        refine WL_nil ?_
                        refine WQ_code ?_
                        refine WC_region ?_
                        refine WL_val rfl rfl rfl (R_add rfl rfl rfl (by omega)) ?_
                        refine WL_val rfl rfl rfl (R_move rfl rfl) ?_
                        refine WL_nil ?_
                        refine WQ_nextF (⟨u.j + 1, true⟩) (⟨by dsimp only; omega, by dsimp only; rw [take_get hx]; obtain ⟨v8, hv8, e8⟩ := hub.1 (by assumption); exact ⟨fun _ => ⟨v8, List.mem_append_left _ hv8, e8⟩, fun _ => rfl⟩⟩) (by dsimp only; omega) leZ (psZ) rfl (pqY)
                      · refine WL_val rfl rfl rfl (R_move rfl rfl) ?_
                        refine WL_val rfl rfl rfl (R_move rfl rfl) ?_
                        refine WL_val rfl rfl rfl (R_eql rfl rfl rfl) ?_
                        refine WL_val rfl rfl rfl (R_pickF rfl rfl rfl) ?_
                        refine WL_val rfl rfl rfl (R_assign rfl rfl) ?_
                        refine WL_nil ?_
                        refine WQ_code ?_
                        refine WC_region ?_
                        refine WL_val rfl rfl rfl (R_add rfl rfl rfl (by omega)) ?_
                        refine WL_val rfl rfl rfl (R_move rfl rfl) ?_
                        refine WL_nil ?_
                        refine WQ_nextF (⟨u.j + 1, decide (v9 = (j : Int))⟩) (⟨by dsimp only; omega, by dsimp only; rw [take_get hx, decide_eq_true_eq]; exact ⟨fun e8 => ⟨v9, List.mem_append_right _ (List.mem_singleton.2 rfl), e8⟩, fun ⟨v8, hv8, e8⟩ => (List.mem_append.1 hv8).elim (fun h8 => absurd (hub.2 ⟨v8, h8, e8⟩) (by simp_all)) (fun h8 => (List.mem_singleton.1 h8) ▸ e8)⟩⟩) (by dsimp only; omega) leZ (psZ) rfl (pqY)
                    · rw [List.take_of_length_le (by omega)] at hub
                      refine WC_exit ?_
                      refine WQ_code ?_
                      refine WC_seq ?_
                      refine WC_region ?_
                      obtain ⟨x9, hx9⟩ := exE (T := (y.s.out v).sm) (i := j) (by omega)
                      have hst9 := stR_in hx9
                      have hin9 := in_state h2.ps hall2 hx9
                      rw [hq2] at hin9
                      have hb9 : u.b = decide (x9 = 2) := by rw [Bool.eq_iff_iff, hub, hin9]; simp
                      refine WL_val rfl rfl rfl (R_move rfl rfl) ?_
                      refine WL_val rfl rfl rfl (R_move rfl rfl) ?_
                      refine WL_do rfl rfl rfl (D_call (pk_state (y.N + 1) (y.s.out v) m2 h2 (j : Int)) rfl rfl rfl rfl (pqY)) ?_
                      rintro _ _ ⟨_, ⟨rfl, rfl⟩, rfl⟩
                      rw [hst9]
                      refine WL_val rfl rfl rfl (R_move rfl rfl) ?_
                      refine WL_val rfl rfl rfl (R_extract rfl rfl rfl) ?_
                      refine WL_val rfl rfl rfl (R_extract rfl rfl rfl) ?_
                      refine WL_val rfl rfl rfl (R_assign rfl rfl) ?_
                      refine WL_val rfl rfl rfl (R_assign rfl rfl) ?_
                      refine WL_nil ?_
                      refine WQ_code ?_
                      refine WC_seq ?_
                      refine WC_region ?_
                      refine WL_val rfl rfl rfl (R_move rfl rfl) ?_
                      refine WL_val rfl rfl rfl (R_neq rfl rfl rfl) ?_
                      refine WL_set (s := 226) (v := .bool false) rfl (by simp) ?_
                      refine WL_val rfl rfl rfl (R_move rfl rfl) ?_
                      refine WL_val rfl rfl rfl (R_move rfl rfl) ?_
                      refine WL_val rfl rfl rfl (R_move rfl rfl) ?_
                      refine WL_val rfl rfl rfl (R_eql rfl rfl rfl) ?_
                      refine WL_val rfl rfl rfl (R_boolNe rfl Try.underlying4 rfl rfl) ?_
                      refine WL_set (s := 231) (v := .bool false) rfl (by rw [hb9]; simp) ?_
                      refine WL_val rfl rfl rfl (R_pickF rfl rfl rfl) ?_
                      refine WL_nil ?_
                      refine WQ_code ?_
                      refine WC_F rfl ?_
                      refine WC_skip ?_
                      refine WQ_code ?_
                      refine WC_region ?_
                      refine WL_val rfl rfl rfl (R_move rfl rfl) ?_
                      refine WL_val rfl rfl rfl (R_add rfl rfl rfl (by omega)) ?_
                      refine WL_val rfl rfl rfl (R_assign rfl rfl) ?_
                      refine WL_nil ?_
                      refine WQ_nextF (j + 1) (by omega) (by omega) leZ (psZ) rfl (pqY)
                  · refine WC_exit ?_
                    refine WQ_code ?_
                    refine WC_region ?_
                    refine WL_val rfl rfl rfl (R_add rfl rfl rfl (by omega)) ?_
                    refine WL_val rfl rfl rfl (R_move rfl rfl) ?_
                    refine WL_nil ?_
                    refine WQ_nextF (⟨y.k + 1, (y.N + 1), (y.s.out v), m2, q9, y.ob, (if y.c = 1 then y.kk else y.kk + 1), y.c - 1, y.pre ++ [.int .i64 v], y.tl⟩) (⟨by dsimp only; omega, h2, by dsimp only; omega, rfl, hall2, hq2, ownC, hsl2⟩) (by dsimp only; omega) leZ (psZ) rfl (pqY)
            · refine WC_region ?_
              refine WL_val rfl rfl rfl (R_eql rfl rfl rfl) ?_
              refine WL_val rfl rfl rfl (R_assign rfl rfl) ?_
              refine WL_nil ?_
              refine WQ_code ?_
              refine WC_dec rfl (fun c57 => ?_) (fun c57 => ?_)
              · obtain hq0 | ⟨v, q9, hqc⟩ : y.q = [] ∨ ∃ v q9, y.q = v :: q9 := by cases y.q with | nil => exact .inl rfl | cons a b => exact .inr ⟨a, b, rfl⟩
                · have e9 := wakeR_none y.s hv1 (hq.trans hq0)
                  have ew : y.s.wake one = y.s := by unfold PS.wake; rw [e9, if_neg (by decide)]
                  refine WC_seq ?_
                  refine WC_region ?_
                  refine WL_val rfl rfl rfl (R_move rfl rfl) ?_
                  refine WL_val rfl rfl rfl (R_loadA (vs := [_, _]) rfl ag25 rfl (mmY) rfl (atZ)) ?_
                  refine WL_do rfl rfl rfl (D_call (pk_wake y.N y.s y.m hy (by omega) one) rfl rfl rfl rfl (pqY)) ?_
                  rintro _ _ ⟨_, ⟨m2, rfl, rfl, hp2, h2⟩, rfl⟩
                  rw [e9]
                  rw [ew] at h2
                  rw [← hp2]
                  refine WL_val rfl rfl rfl (R_move rfl rfl) ?_
                  refine WL_val rfl rfl rfl (R_extract rfl rfl rfl) ?_
                  refine WL_val rfl rfl rfl (R_extract rfl rfl rfl) ?_
                  refine WL_val rfl rfl rfl (R_assign rfl rfl) ?_
                  refine WL_val rfl rfl rfl (R_assign rfl rfl) ?_
                  refine WL_nil ?_
                  refine WQ_code ?_
                  refine WC_seq ?_
                  refine WC_seq ?_
                  refine WC_region ?_
                  refine WL_val rfl rfl rfl (R_move rfl rfl) ?_
                  refine WL_val rfl rfl rfl (R_eql rfl rfl rfl) ?_
                  refine WL_set (s := 120) (v := .bool false) rfl (by simp) ?_
                  refine WL_val rfl rfl rfl (R_move rfl rfl) ?_
                  refine WL_val rfl rfl rfl (R_len rfl Try.underlying32 rfl) ?_
                  refine WL_val rfl rfl rfl (R_gtr rfl rfl rfl) ?_
                  refine WL_set (s := 123) (v := .bool false) rfl (by simp [hq0]) ?_
                  refine WL_val rfl rfl rfl (R_boolNe rfl Try.underlying4 rfl rfl) ?_
                  refine WL_set (s := 124) (v := .bool false) rfl (by rfl) ?_
                  refine WL_val rfl rfl rfl (R_move rfl rfl) ?_
                  refine WL_val rfl rfl rfl (R_move rfl rfl) ?_
                  refine WL_val rfl rfl rfl (R_eql rfl rfl rfl) ?_
                  refine WL_set (s := 127) (v := .bool false) rfl (by simp) ?_
                  refine WL_val rfl rfl rfl (R_move rfl rfl) ?_
                  refine WL_skip rfl rfl rfl ?_
                  refine WL_skip rfl rfl rfl ?_
                  refine WL_skip rfl rfl rfl ?_
                  refine WL_skip rfl rfl rfl ?_
                  refine WL_skip rfl rfl rfl ?_
                  refine WL_val rfl rfl rfl (R_pickF rfl rfl rfl) ?_
                  refine WL_val rfl rfl rfl (R_pickF rfl rfl rfl) ?_
                  refine WL_nil ?_
                  refine WQ_code ?_
                  refine WC_F rfl ?_
                  refine WC_skip ?_
                  refine WQ_code ?_
                  refine WC_seq ?_
                  refine WC_region ?_
                  refine WL_val rfl rfl rfl (R_move rfl rfl) ?_
                  refine WL_val rfl rfl rfl (R_eql rfl rfl rfl) ?_
                  refine WL_set (s := 137) (v := .bool false) rfl (by simp) ?_
                  refine WL_nil ?_
                  refine WQ_code ?_
                  refine WC_F rfl ?_
                  refine WC_skip ?_
                  refine WQ_code ?_
                  refine WC_seq ?_
                  refine WC_region ?_
                  have hall2 : ∀ w0 ∈ y.s.W, w0.at_ = one := hall
                  have hq2 : wAt y.s.W one = y.q := hq
                  have hw2 : y.s.waiting one = y.q := (waiting_v hv1).trans hq2
                  have hql2 : y.q.length ≤ 64 := by rw [← hq2]; exact Nat.le_trans (wAt_len _ _) h2.ps.few
                  have hsl2 : y.s.sm.length = M := by exact hsl
                  refine WL_val rfl rfl rfl (R_move rfl rfl) ?_
                  refine WL_val rfl rfl rfl (R_loadA (vs := [_, _]) rfl ag25 rfl (mmY) rfl (atZ)) ?_
                  refine WL_do rfl rfl rfl (D_call (pk_waiting (y.N + 1) y.s m2 h2 two) rfl rfl rfl rfl (pqY)) ?_
                  rintro _ _ ⟨_, ⟨o2, c2, t2, rfl, own2, rfl⟩, rfl⟩
                  refine WL_val rfl rfl rfl (R_move rfl rfl) ?_
                  refine WL_val rfl rfl rfl (R_extract rfl rfl rfl) ?_
                  refine WL_val rfl rfl rfl (R_extract rfl rfl rfl) ?_
                  refine WL_val rfl rfl rfl (R_assign rfl rfl) ?_
                  refine WL_val rfl rfl rfl (R_assign rfl rfl) ?_
                  refine WL_nil ?_
                  refine WQ_code ?_
                  refine WC_seq ?_
                  refine WC_seq ?_
                  refine WC_region ?_
                  refine WL_val rfl rfl rfl (R_move rfl rfl) ?_
                  refine WL_val rfl rfl rfl (R_neq rfl rfl rfl) ?_
                  refine WL_set (s := 177) (v := .bool false) rfl (by simp [hsp2]) ?_
                  refine WL_val rfl rfl rfl (R_move rfl rfl) ?_
                  refine WL_val rfl rfl rfl (R_loadA (vs := [_, _]) rfl ag25 rfl (mmY) rfl (atZ)) ?_
                  refine WL_val rfl rfl rfl (R_loadA (vs := [_, _]) rfl ag25 rfl (mmY) rfl (atZ)) ?_
                  refine WL_val rfl rfl rfl (R_sne25 rfl rfl rfl rfl) ?_
                  refine WL_val rfl rfl rfl (R_move rfl rfl) ?_
                  refine WL_splitD (s := 182) rfl (fun c58 => ?_) (fun c58 => ?_)
                  · have hne : one ≠ two := fun e => c58 (by rw [e]; exact ⟨rfl, rfl⟩)
                    have hwA : y.s.waiting two = [] := wait_none hall hne
                    have hwB := wait_none hall2 hne
                    rw [hwA] at own1
                    rw [hwB] at own2
                    rw [hwA]
                    try rw [hwB]
                    refine WL_val rfl rfl rfl (R_move rfl rfl) ?_
                    refine WL_val rfl rfl rfl (R_len rfl Try.underlying32 rfl) ?_
                    refine WL_val rfl rfl rfl (R_neq rfl rfl rfl) ?_
                    refine WL_set (s := 185) (v := .bool false) rfl (by simp) ?_
                    refine WL_val rfl rfl rfl (R_move rfl rfl) ?_
                    refine WL_val rfl rfl rfl (R_move rfl rfl) ?_
                    refine WL_val rfl rfl rfl (R_move rfl rfl) ?_
                    refine WL_do rfl rfl rfl (D_call (same_ok [] (by decide) o1 c1 t1 o2 c2 t2 own1 own2) rfl rfl rfl rfl (pqY)) ?_
                    rintro _ _ ⟨_, ⟨rfl, rfl⟩, rfl⟩
                    refine WL_val rfl rfl rfl (R_not rfl rfl) ?_
                    refine WL_val rfl rfl rfl (R_pickF rfl rfl rfl) ?_
                    refine WL_val rfl rfl rfl (R_pickT rfl rfl rfl) ?_
                    refine WL_val rfl rfl rfl (R_pickF rfl rfl rfl) ?_
                    refine WL_val rfl rfl rfl (R_move rfl rfl) ?_
                    refine WL_val rfl rfl rfl (R_move rfl rfl) ?_
                    refine WL_val rfl rfl rfl (R_loadA (vs := [_, _]) rfl ag25 rfl (mmY) rfl (atZ)) ?_
                    refine WL_val rfl rfl rfl (R_move rfl rfl) ?_
                    refine WL_do rfl rfl rfl (D_call (lwaits_okS (y.N + 1) y.s m2 h2 one hv1 y.q y.ob y.kk y.c y.pre y.tl hyo hw2) rfl rfl rfl rfl (pqY)) ?_
                    rintro _ _ ⟨_, ⟨rfl, rfl⟩, rfl⟩
                    refine WL_val rfl rfl rfl (R_not rfl rfl) ?_
                    refine WL_val rfl rfl rfl (R_pickF rfl rfl rfl) ?_
                    refine WL_nil ?_
                    refine WQ_code ?_
                    refine WC_F rfl ?_
                    refine WC_skip ?_
                    refine WQ_code ?_
                    refine WC_seq ?_
                    refine WC_region ?_
                    refine WL_val rfl rfl rfl (R_assign rfl rfl) ?_
                    refine WL_nil ?_
                    refine WQ_code ?_
                    refine WC_block ?_
                    refine WC_loopF (G := Nat) [8,24,25,27,28,29,201,202,203,204,205,206,207,208,209,210,211,212,213,214,215,216,217,218,219,220,221,222,223,224,225,226,227,228,229,230,231,232] (fun j => j ≤ M) (fun j => [(24, .int .i64 (j : Int))]) (fun j => []) (fun j => M - j) (0) (Nat.zero_le _) leZ (pqY) ?_
                    rintro j hj
                    refine WC_seq ?_
                    refine WC_seq ?_
                    refine WC_region ?_
                    refine WL_val rfl rfl rfl (R_move rfl rfl) ?_
                    refine WL_val rfl rfl rfl (R_move rfl rfl) ?_
                    refine WL_val rfl rfl rfl (R_lss rfl rfl rfl) ?_
                    refine WL_nil ?_
                    refine WQ_code ?_
                    refine WC_dec rfl (fun c59 => ?_) (fun c59 => ?_)
                    · refine WC_skip ?_
                      refine WQ_code ?_
                      refine WC_seq ?_
                      refine WC_block ?_
                      refine WC_seq ?_
                      refine WC_region ?_
                      refine WL_val rfl rfl rfl (R_assign rfl rfl) ?_
                      refine WL_nil ?_
                      refine WQ_code ?_
                      refine WC_seq ?_
                      refine WC_seq ?_
                      refine WC_region ?_
                      refine WL_val rfl rfl rfl (R_move rfl rfl) ?_
                      refine WL_val rfl rfl rfl (R_len rfl Try.underlying32 rfl) ?_
                      refine WL_val rfl rfl rfl (R_move rfl rfl) ?_
                      refine WL_nil ?_
                      refine WQ_code ?_
                      refine WC_block ?_
                      refine WC_loopF (G := InW9) [25,27,208,209,210,211,212,213,214,215,216,217,218] (fun u => u.j ≤ y.q.length ∧ (u.b = true ↔ ∃ v ∈ y.q.take u.j, v = (j : Int))) (fun u => [(208, .int .i64 (u.j : Int)), (25, .bool u.b)]) (fun u => []) (fun u => y.q.length - u.j) (⟨0, false⟩) (⟨Nat.zero_le _, by simp⟩) leZ (pqY) ?_
                      rintro u ⟨huj, hub⟩
                      refine WC_seq ?_
                      refine WC_region ?_
                      refine WL_val rfl rfl rfl (R_lss rfl rfl rfl) ?_
                      refine WL_nil ?_
                      refine WQ_code ?_
                      refine WC_seq ?_
                      refine WC_dec rfl (fun c60 => ?_) (fun c60 => ?_)
                      · refine WC_skip ?_
                        refine WQ_code ?_
                        refine WC_seq ?_
                        refine WC_block ?_
                        refine WC_seq ?_
                        refine WC_region ?_
                        obtain ⟨v9, hx⟩ := exE (T := y.q) (i := u.j) (by omega)
                        obtain ⟨wb, hwb⟩ := (hyo).some_of (by omega)
                        refine WL_val rfl rfl rfl (R_indexS hwb rfl Try.underlying32 Try.sizeOf3 rfl rfl (by omega)) ?_
                        refine WL_val rfl rfl rfl (R_loadO hwb rfl sc3 rfl (mmY) (hyo.get encI1 hx (by omega) (j := 0) (by omega))) ?_
                        refine WL_val rfl rfl rfl (R_assign rfl rfl) ?_
                        refine WL_nil ?_
                        refine WQ_code ?_
                        refine WC_region ?_
                        refine WL_val rfl rfl rfl (R_move rfl rfl) ?_
                        refine WL_val rfl rfl rfl (R_move rfl rfl) ?_
                        refine WL_split (s := 213) rfl (fun c61 => ?_) (fun c61 => ?_)
                        · refine WL_skip rfl rfl rfl ?_
                          refine WL_skip rfl rfl rfl ?_
                          refine WL_skip rfl rfl rfl ?_
                          refine WL_val rfl rfl rfl (R_pickT rfl rfl rfl) ?_
                          refine WL_val rfl rfl rfl (R_assign rfl rfl) ?_
                          refine WL_nil ?_
                          refine WQ_code ?_
                          refine WC_region ?_
                          refine WL_val rfl rfl rfl (R_add rfl rfl rfl (by omega)) ?_
                          refine WL_val rfl rfl rfl (R_move rfl rfl) ?_
                          refine WL_nil ?_
                          refine WQ_nextF (⟨u.j + 1, true⟩) (⟨by dsimp only; omega, by dsimp only; rw [take_get hx]; obtain ⟨v8, hv8, e8⟩ := hub.1 (by assumption); exact ⟨fun _ => ⟨v8, List.mem_append_left _ hv8, e8⟩, fun _ => rfl⟩⟩) (by dsimp only; omega) leZ (psZ) rfl (pqY)
                        · refine WL_val rfl rfl rfl (R_move rfl rfl) ?_
                          refine WL_val rfl rfl rfl (R_move rfl rfl) ?_
                          refine WL_val rfl rfl rfl (R_eql rfl rfl rfl) ?_
                          refine WL_val rfl rfl rfl (R_pickF rfl rfl rfl) ?_
                          refine WL_val rfl rfl rfl (R_assign rfl rfl) ?_
                          refine WL_nil ?_
                          refine WQ_code ?_
                          refine WC_region ?_
                          refine WL_val rfl rfl rfl (R_add rfl rfl rfl (by omega)) ?_
                          refine WL_val rfl rfl rfl (R_move rfl rfl) ?_
                          refine WL_nil ?_
                          refine WQ_nextF (⟨u.j + 1, decide (v9 = (j : Int))⟩) (⟨by dsimp only; omega, by dsimp only; rw [take_get hx, decide_eq_true_eq]; exact ⟨fun e8 => ⟨v9, List.mem_append_right _ (List.mem_singleton.2 rfl), e8⟩, fun ⟨v8, hv8, e8⟩ => (List.mem_append.1 hv8).elim (fun h8 => absurd (hub.2 ⟨v8, h8, e8⟩) (by simp_all)) (fun h8 => (List.mem_singleton.1 h8) ▸ e8)⟩⟩) (by dsimp only; omega) leZ (psZ) rfl (pqY)
                      · rw [List.take_of_length_le (by omega)] at hub
                        refine WC_exit ?_
                        refine WQ_code ?_
                        refine WC_seq ?_
                        refine WC_region ?_
                        obtain ⟨x9, hx9⟩ := exE (T := y.s.sm) (i := j) (by omega)
                        have hst9 := stR_in hx9
                        have hin9 := in_state h2.ps hall2 hx9
                        rw [hq2] at hin9
                        have hb9 : u.b = decide (x9 = 2) := by rw [Bool.eq_iff_iff, hub, hin9]; simp
                        refine WL_val rfl rfl rfl (R_move rfl rfl) ?_
                        refine WL_val rfl rfl rfl (R_move rfl rfl) ?_
                        refine WL_do rfl rfl rfl (D_call (pk_state (y.N + 1) y.s m2 h2 (j : Int)) rfl rfl rfl rfl (pqY)) ?_
                        rintro _ _ ⟨_, ⟨rfl, rfl⟩, rfl⟩
                        rw [hst9]
                        refine WL_val rfl rfl rfl (R_move rfl rfl) ?_
                        refine WL_val rfl rfl rfl (R_extract rfl rfl rfl) ?_
                        refine WL_val rfl rfl rfl (R_extract rfl rfl rfl) ?_
                        refine WL_val rfl rfl rfl (R_assign rfl rfl) ?_
                        refine WL_val rfl rfl rfl (R_assign rfl rfl) ?_
                        refine WL_nil ?_
                        refine WQ_code ?_
                        refine WC_seq ?_
                        refine WC_region ?_
                        refine WL_val rfl rfl rfl (R_move rfl rfl) ?_
                        refine WL_val rfl rfl rfl (R_neq rfl rfl rfl) ?_
                        refine WL_set (s := 226) (v := .bool false) rfl (by simp) ?_
                        refine WL_val rfl rfl rfl (R_move rfl rfl) ?_
                        refine WL_val rfl rfl rfl (R_move rfl rfl) ?_
                        refine WL_val rfl rfl rfl (R_move rfl rfl) ?_
                        refine WL_val rfl rfl rfl (R_eql rfl rfl rfl) ?_
                        refine WL_val rfl rfl rfl (R_boolNe rfl Try.underlying4 rfl rfl) ?_
                        refine WL_set (s := 231) (v := .bool false) rfl (by rw [hb9]; simp) ?_
                        refine WL_val rfl rfl rfl (R_pickF rfl rfl rfl) ?_
                        refine WL_nil ?_
                        refine WQ_code ?_
                        refine WC_F rfl ?_
                        refine WC_skip ?_
                        refine WQ_code ?_
                        refine WC_region ?_
                        refine WL_val rfl rfl rfl (R_move rfl rfl) ?_
                        refine WL_val rfl rfl rfl (R_add rfl rfl rfl (by omega)) ?_
                        refine WL_val rfl rfl rfl (R_assign rfl rfl) ?_
                        refine WL_nil ?_
                        refine WQ_nextF (j + 1) (by omega) (by omega) leZ (psZ) rfl (pqY)
                    · refine WC_exit ?_
                      refine WQ_code ?_
                      refine WC_region ?_
                      refine WL_val rfl rfl rfl (R_add rfl rfl rfl (by omega)) ?_
                      refine WL_val rfl rfl rfl (R_move rfl rfl) ?_
                      refine WL_nil ?_
                      refine WQ_nextF (⟨y.k + 1, (y.N + 1), y.s, m2, y.q, y.ob, y.kk, y.c, y.pre, y.tl⟩) (⟨by dsimp only; omega, h2, by dsimp only; omega, rfl, hall2, hq2, hyo, hsl2⟩) (by dsimp only; omega) leZ (psZ) rfl (pqY)
                  · refine WL_skip rfl rfl rfl ?_
                    refine WL_skip rfl rfl rfl ?_
                    refine WL_skip rfl rfl rfl ?_
                    refine WL_skip rfl rfl rfl ?_
                    refine WL_skip rfl rfl rfl ?_
                    refine WL_skip rfl rfl rfl ?_
                    refine WL_skip rfl rfl rfl ?_
                    refine WL_skip rfl rfl rfl ?_
                    refine WL_skip rfl rfl rfl ?_
                    refine WL_val rfl rfl rfl (R_pickF rfl rfl rfl) ?_
                    refine WL_val rfl rfl rfl (R_pickF rfl rfl rfl) ?_
                    refine WL_val rfl rfl rfl (R_move rfl rfl) ?_
                    refine WL_val rfl rfl rfl (R_move rfl rfl) ?_
                    refine WL_val rfl rfl rfl (R_loadA (vs := [_, _]) rfl ag25 rfl (mmY) rfl (atZ)) ?_
                    refine WL_val rfl rfl rfl (R_move rfl rfl) ?_
                    refine WL_do rfl rfl rfl (D_call (lwaits_okS (y.N + 1) y.s m2 h2 one hv1 y.q y.ob y.kk y.c y.pre y.tl hyo hw2) rfl rfl rfl rfl (pqY)) ?_
                    rintro _ _ ⟨_, ⟨rfl, rfl⟩, rfl⟩
                    refine WL_val rfl rfl rfl (R_not rfl rfl) ?_
                    refine WL_val rfl rfl rfl (R_pickF rfl rfl rfl) ?_
                    refine WL_nil ?_
                    refine WQ_code ?_
                    refine WC_F rfl ?_
                    refine WC_skip ?_
                    refine WQ_code ?_
                    refine WC_seq ?_
                    refine WC_region ?_
                    refine WL_val rfl rfl rfl (R_assign rfl rfl) ?_
                    refine WL_nil ?_
                    refine WQ_code ?_
                    refine WC_block ?_
                    refine WC_loopF (G := Nat) [8,24,25,27,28,29,201,202,203,204,205,206,207,208,209,210,211,212,213,214,215,216,217,218,219,220,221,222,223,224,225,226,227,228,229,230,231,232] (fun j => j ≤ M) (fun j => [(24, .int .i64 (j : Int))]) (fun j => []) (fun j => M - j) (0) (Nat.zero_le _) leZ (pqY) ?_
                    rintro j hj
                    refine WC_seq ?_
                    refine WC_seq ?_
                    refine WC_region ?_
                    refine WL_val rfl rfl rfl (R_move rfl rfl) ?_
                    refine WL_val rfl rfl rfl (R_move rfl rfl) ?_
                    refine WL_val rfl rfl rfl (R_lss rfl rfl rfl) ?_
                    refine WL_nil ?_
                    refine WQ_code ?_
                    refine WC_dec rfl (fun c62 => ?_) (fun c62 => ?_)
                    · refine WC_skip ?_
                      refine WQ_code ?_
                      refine WC_seq ?_
                      refine WC_block ?_
                      refine WC_seq ?_
                      refine WC_region ?_
                      refine WL_val rfl rfl rfl (R_assign rfl rfl) ?_
                      refine WL_nil ?_
                      refine WQ_code ?_
                      refine WC_seq ?_
                      refine WC_seq ?_
                      refine WC_region ?_
                      refine WL_val rfl rfl rfl (R_move rfl rfl) ?_
                      refine WL_val rfl rfl rfl (R_len rfl Try.underlying32 rfl) ?_
                      refine WL_val rfl rfl rfl (R_move rfl rfl) ?_
                      refine WL_nil ?_
                      refine WQ_code ?_
                      refine WC_block ?_
                      refine WC_loopF (G := InW9) [25,27,208,209,210,211,212,213,214,215,216,217,218] (fun u => u.j ≤ y.q.length ∧ (u.b = true ↔ ∃ v ∈ y.q.take u.j, v = (j : Int))) (fun u => [(208, .int .i64 (u.j : Int)), (25, .bool u.b)]) (fun u => []) (fun u => y.q.length - u.j) (⟨0, false⟩) (⟨Nat.zero_le _, by simp⟩) leZ (pqY) ?_
                      rintro u ⟨huj, hub⟩
                      refine WC_seq ?_
                      refine WC_region ?_
                      refine WL_val rfl rfl rfl (R_lss rfl rfl rfl) ?_
                      refine WL_nil ?_
                      refine WQ_code ?_
                      refine WC_seq ?_
                      refine WC_dec rfl (fun c63 => ?_) (fun c63 => ?_)
                      · refine WC_skip ?_
                        refine WQ_code ?_
                        refine WC_seq ?_
                        refine WC_block ?_
                        refine WC_seq ?_
                        refine WC_region ?_
                        obtain ⟨v9, hx⟩ := exE (T := y.q) (i := u.j) (by omega)
                        obtain ⟨wb, hwb⟩ := (hyo).some_of (by omega)
                        refine WL_val rfl rfl rfl (R_indexS hwb rfl Try.underlying32 Try.sizeOf3 rfl rfl (by omega)) ?_
                        refine WL_val rfl rfl rfl (R_loadO hwb rfl sc3 rfl (mmY) (hyo.get encI1 hx (by omega) (j := 0) (by omega))) ?_
                        refine WL_val rfl rfl rfl (R_assign rfl rfl) ?_
                        refine WL_nil ?_
                        refine WQ_code ?_
                        refine WC_region ?_
                        refine WL_val rfl rfl rfl (R_move rfl rfl) ?_
                        refine WL_val rfl rfl rfl (R_move rfl rfl) ?_
                        refine WL_split (s := 213) rfl (fun c64 => ?_) (fun c64 => ?_)
                        · refine WL_skip rfl rfl rfl ?_
                          refine WL_skip rfl rfl rfl ?_
                          refine WL_skip rfl rfl rfl ?_
                          refine WL_val rfl rfl rfl (R_pickT rfl rfl rfl) ?_
                          refine WL_val rfl rfl rfl (R_assign rfl rfl) ?_
                          refine WL_nil ?_
                          refine WQ_code ?_
                          refine WC_region ?_
                          refine WL_val rfl rfl rfl (R_add rfl rfl rfl (by omega)) ?_
                          refine WL_val rfl rfl rfl (R_move rfl rfl) ?_
                          refine WL_nil ?_
                          refine WQ_nextF (⟨u.j + 1, true⟩) (⟨by dsimp only; omega, by dsimp only; rw [take_get hx]; obtain ⟨v8, hv8, e8⟩ := hub.1 (by assumption); exact ⟨fun _ => ⟨v8, List.mem_append_left _ hv8, e8⟩, fun _ => rfl⟩⟩) (by dsimp only; omega) leZ (psZ) rfl (pqY)
                        · refine WL_val rfl rfl rfl (R_move rfl rfl) ?_
                          refine WL_val rfl rfl rfl (R_move rfl rfl) ?_
                          refine WL_val rfl rfl rfl (R_eql rfl rfl rfl) ?_
                          refine WL_val rfl rfl rfl (R_pickF rfl rfl rfl) ?_
                          refine WL_val rfl rfl rfl (R_assign rfl rfl) ?_
                          refine WL_nil ?_
                          refine WQ_code ?_
                          refine WC_region ?_
                          refine WL_val rfl rfl rfl (R_add rfl rfl rfl (by omega)) ?_
                          refine WL_val rfl rfl rfl (R_move rfl rfl) ?_
                          refine WL_nil ?_
                          refine WQ_nextF (⟨u.j + 1, decide (v9 = (j : Int))⟩) (⟨by dsimp only; omega, by dsimp only; rw [take_get hx, decide_eq_true_eq]; exact ⟨fun e8 => ⟨v9, List.mem_append_right _ (List.mem_singleton.2 rfl), e8⟩, fun ⟨v8, hv8, e8⟩ => (List.mem_append.1 hv8).elim (fun h8 => absurd (hub.2 ⟨v8, h8, e8⟩) (by simp_all)) (fun h8 => (List.mem_singleton.1 h8) ▸ e8)⟩⟩) (by dsimp only; omega) leZ (psZ) rfl (pqY)
                      · rw [List.take_of_length_le (by omega)] at hub
                        refine WC_exit ?_
                        refine WQ_code ?_
                        refine WC_seq ?_
                        refine WC_region ?_
                        obtain ⟨x9, hx9⟩ := exE (T := y.s.sm) (i := j) (by omega)
                        have hst9 := stR_in hx9
                        have hin9 := in_state h2.ps hall2 hx9
                        rw [hq2] at hin9
                        have hb9 : u.b = decide (x9 = 2) := by rw [Bool.eq_iff_iff, hub, hin9]; simp
                        refine WL_val rfl rfl rfl (R_move rfl rfl) ?_
                        refine WL_val rfl rfl rfl (R_move rfl rfl) ?_
                        refine WL_do rfl rfl rfl (D_call (pk_state (y.N + 1) y.s m2 h2 (j : Int)) rfl rfl rfl rfl (pqY)) ?_
                        rintro _ _ ⟨_, ⟨rfl, rfl⟩, rfl⟩
                        rw [hst9]
                        refine WL_val rfl rfl rfl (R_move rfl rfl) ?_
                        refine WL_val rfl rfl rfl (R_extract rfl rfl rfl) ?_
                        refine WL_val rfl rfl rfl (R_extract rfl rfl rfl) ?_
                        refine WL_val rfl rfl rfl (R_assign rfl rfl) ?_
                        refine WL_val rfl rfl rfl (R_assign rfl rfl) ?_
                        refine WL_nil ?_
                        refine WQ_code ?_
                        refine WC_seq ?_
                        refine WC_region ?_
                        refine WL_val rfl rfl rfl (R_move rfl rfl) ?_
                        refine WL_val rfl rfl rfl (R_neq rfl rfl rfl) ?_
                        refine WL_set (s := 226) (v := .bool false) rfl (by simp) ?_
                        refine WL_val rfl rfl rfl (R_move rfl rfl) ?_
                        refine WL_val rfl rfl rfl (R_move rfl rfl) ?_
                        refine WL_val rfl rfl rfl (R_move rfl rfl) ?_
                        refine WL_val rfl rfl rfl (R_eql rfl rfl rfl) ?_
                        refine WL_val rfl rfl rfl (R_boolNe rfl Try.underlying4 rfl rfl) ?_
                        refine WL_set (s := 231) (v := .bool false) rfl (by rw [hb9]; simp) ?_
                        refine WL_val rfl rfl rfl (R_pickF rfl rfl rfl) ?_
                        refine WL_nil ?_
                        refine WQ_code ?_
                        refine WC_F rfl ?_
                        refine WC_skip ?_
                        refine WQ_code ?_
                        refine WC_region ?_
                        refine WL_val rfl rfl rfl (R_move rfl rfl) ?_
                        refine WL_val rfl rfl rfl (R_add rfl rfl rfl (by omega)) ?_
                        refine WL_val rfl rfl rfl (R_assign rfl rfl) ?_
                        refine WL_nil ?_
                        refine WQ_nextF (j + 1) (by omega) (by omega) leZ (psZ) rfl (pqY)
                    · refine WC_exit ?_
                      refine WQ_code ?_
                      refine WC_region ?_
                      refine WL_val rfl rfl rfl (R_add rfl rfl rfl (by omega)) ?_
                      refine WL_val rfl rfl rfl (R_move rfl rfl) ?_
                      refine WL_nil ?_
                      refine WQ_nextF (⟨y.k + 1, (y.N + 1), y.s, m2, y.q, y.ob, y.kk, y.c, y.pre, y.tl⟩) (⟨by dsimp only; omega, h2, by dsimp only; omega, rfl, hall2, hq2, hyo, hsl2⟩) (by dsimp only; omega) leZ (psZ) rfl (pqY)
                · have e9 := wakeR_some y.s hv1 (v := v) (by rw [hq, hqc]; rfl)
                  have ew : y.s.wake one = y.s.out v := by unfold PS.wake; rw [e9, if_pos rfl]
                  refine WC_seq ?_
                  refine WC_region ?_
                  refine WL_val rfl rfl rfl (R_move rfl rfl) ?_
                  refine WL_val rfl rfl rfl (R_loadA (vs := [_, _]) rfl ag25 rfl (mmY) rfl (atZ)) ?_
                  refine WL_do rfl rfl rfl (D_call (pk_wake y.N y.s y.m hy (by omega) one) rfl rfl rfl rfl (pqY)) ?_
                  rintro _ _ ⟨_, ⟨m2, rfl, rfl, hp2, h2⟩, rfl⟩
                  rw [e9]
                  rw [ew] at h2
                  rw [← hp2]
                  refine WL_val rfl rfl rfl (R_move rfl rfl) ?_
                  refine WL_val rfl rfl rfl (R_extract rfl rfl rfl) ?_
                  refine WL_val rfl rfl rfl (R_extract rfl rfl rfl) ?_
                  refine WL_val rfl rfl rfl (R_assign rfl rfl) ?_
                  refine WL_val rfl rfl rfl (R_assign rfl rfl) ?_
                  refine WL_nil ?_
                  refine WQ_code ?_
                  refine WC_seq ?_
                  refine WC_seq ?_
                  refine WC_region ?_
                  obtain ⟨wb, hwb⟩ := hyo.some_of (by rw [hqc]; simp)
                  refine WL_val rfl rfl rfl (R_move rfl rfl) ?_
                  refine WL_val rfl rfl rfl (R_eql rfl rfl rfl) ?_
                  refine WL_set (s := 120) (v := .bool true) rfl (by simp) ?_
                  refine WL_val rfl rfl rfl (R_move rfl rfl) ?_
                  refine WL_val rfl rfl rfl (R_len rfl Try.underlying32 rfl) ?_
                  refine WL_val rfl rfl rfl (R_gtr rfl rfl rfl) ?_
                  refine WL_set (s := 123) (v := .bool true) rfl (by simp [hqc]) ?_
                  refine WL_val rfl rfl rfl (R_boolNe rfl Try.underlying4 rfl rfl) ?_
                  refine WL_set (s := 124) (v := .bool false) rfl (by rfl) ?_
                  refine WL_val rfl rfl rfl (R_move rfl rfl) ?_
                  refine WL_val rfl rfl rfl (R_move rfl rfl) ?_
                  refine WL_val rfl rfl rfl (R_eql rfl rfl rfl) ?_
                  refine WL_set (s := 127) (v := .bool true) rfl (by simp) ?_
                  refine WL_val rfl rfl rfl (R_move rfl rfl) ?_
                  refine WL_val rfl rfl rfl (R_move rfl rfl) ?_
                  refine WL_val rfl rfl rfl (R_move rfl rfl) ?_
                  refine WL_val rfl rfl rfl (R_indexS (i := 0) hwb rfl Try.underlying32 Try.sizeOf3 rfl rfl (by rw [hqc]; simp)) ?_
                  refine WL_val rfl rfl rfl (R_loadO (v := .int .i64 v) hwb rfl sc3 rfl (mmY) (hyo.get encI1 (show y.q[0]? = some v by rw [hqc]; rfl) (by rw [hqc]; simp) (j := 0) (by omega))) ?_
                  refine WL_val rfl rfl rfl (R_neq rfl rfl rfl) ?_
                  refine WL_set (s := 133) (v := .bool false) rfl (by simp) ?_
                  refine WL_val rfl rfl rfl (R_pickT rfl rfl rfl) ?_
                  refine WL_val rfl rfl rfl (R_pickF rfl rfl rfl) ?_
                  refine WL_nil ?_
                  refine WQ_code ?_
                  refine WC_F rfl ?_
                  refine WC_skip ?_
                  refine WQ_code ?_
                  refine WC_seq ?_
                  refine WC_region ?_
                  refine WL_val rfl rfl rfl (R_move rfl rfl) ?_
                  refine WL_val rfl rfl rfl (R_eql rfl rfl rfl) ?_
                  refine WL_set (s := 137) (v := .bool true) rfl (by simp) ?_
                  refine WL_nil ?_
                  refine WQ_code ?_
                  refine WC_T rfl ?_
                  refine WC_region ?_
                  refine WL_val rfl rfl rfl (R_move rfl rfl) ?_
                  refine WL_val rfl rfl rfl (R_cut1 (m := q9.length) hwb rfl Try.underlying32 Try.sizeOf3 rfl rfl (by rw [hqc]; rfl)) ?_
                  have ownC := hyo.cut (ys := [Value.int .i64 v]) (zs := ivs q9) (m := q9.length) (by rw [hqc]; rfl) rfl (by rw [hqc]; rfl)
                  rw [show y.pre ++ (ivs y.q ++ y.tl) = (y.pre ++ [Value.int .i64 v]) ++ (ivs q9 ++ y.tl) from by rw [hqc]; simp]
                  refine WL_val rfl rfl rfl (R_assign rfl rfl) ?_
                  refine WL_nil ?_
                  refine WQ_code ?_
                  refine WC_seq ?_
                  refine WC_region ?_
                  have hall2 : ∀ w0 ∈ (y.s.out v).W, w0.at_ = one := wOut_sub hall
                  have hq2 : wAt (y.s.out v).W one = q9 := wAt_pop hy.ps (hq.trans hqc)
                  have hw2 : (y.s.out v).waiting one = q9 := (waiting_v hv1).trans hq2
                  have hql2 : q9.length ≤ 64 := by rw [← hq2]; exact Nat.le_trans (wAt_len _ _) h2.ps.few
                  have hsl2 : (y.s.out v).sm.length = M := by rw [out_len]; exact hsl
                  refine WL_val rfl rfl rfl (R_move rfl rfl) ?_
                  refine WL_val rfl rfl rfl (R_loadA (vs := [_, _]) rfl ag25 rfl (mmY) rfl (atZ)) ?_
                  refine WL_do rfl rfl rfl (D_call (pk_waiting (y.N + 1) (y.s.out v) m2 h2 two) rfl rfl rfl rfl (pqY)) ?_
                  rintro _ _ ⟨_, ⟨o2, c2, t2, rfl, own2, rfl⟩, rfl⟩
                  refine WL_val rfl rfl rfl (R_move rfl rfl) ?_
                  refine WL_val rfl rfl rfl (R_extract rfl rfl rfl) ?_
                  refine WL_val rfl rfl rfl (R_extract rfl rfl rfl) ?_
                  refine WL_val rfl rfl rfl (R_assign rfl rfl) ?_
                  refine WL_val rfl rfl rfl (R_assign rfl rfl) ?_
                  refine WL_nil ?_
                  refine WQ_code ?_
                  refine WC_seq ?_
                  refine WC_seq ?_
                  refine WC_region ?_
                  refine WL_val rfl rfl rfl (R_move rfl rfl) ?_
                  refine WL_val rfl rfl rfl (R_neq rfl rfl rfl) ?_
                  refine WL_set (s := 177) (v := .bool false) rfl (by simp [hsp2]) ?_
                  refine WL_val rfl rfl rfl (R_move rfl rfl) ?_
                  refine WL_val rfl rfl rfl (R_loadA (vs := [_, _]) rfl ag25 rfl (mmY) rfl (atZ)) ?_
                  refine WL_val rfl rfl rfl (R_loadA (vs := [_, _]) rfl ag25 rfl (mmY) rfl (atZ)) ?_
                  refine WL_val rfl rfl rfl (R_sne25 rfl rfl rfl rfl) ?_
                  refine WL_val rfl rfl rfl (R_move rfl rfl) ?_
                  refine WL_splitD (s := 182) rfl (fun c65 => ?_) (fun c65 => ?_)
                  · have hne : one ≠ two := fun e => c65 (by rw [e]; exact ⟨rfl, rfl⟩)
                    have hwA : y.s.waiting two = [] := wait_none hall hne
                    have hwB := wait_none hall2 hne
                    rw [hwA] at own1
                    rw [hwB] at own2
                    rw [hwA]
                    try rw [hwB]
                    refine WL_val rfl rfl rfl (R_move rfl rfl) ?_
                    refine WL_val rfl rfl rfl (R_len rfl Try.underlying32 rfl) ?_
                    refine WL_val rfl rfl rfl (R_neq rfl rfl rfl) ?_
                    refine WL_set (s := 185) (v := .bool false) rfl (by simp) ?_
                    refine WL_val rfl rfl rfl (R_move rfl rfl) ?_
                    refine WL_val rfl rfl rfl (R_move rfl rfl) ?_
                    refine WL_val rfl rfl rfl (R_move rfl rfl) ?_
                    refine WL_do rfl rfl rfl (D_call (same_ok [] (by decide) o1 c1 t1 o2 c2 t2 own1 own2) rfl rfl rfl rfl (pqY)) ?_
                    rintro _ _ ⟨_, ⟨rfl, rfl⟩, rfl⟩
                    refine WL_val rfl rfl rfl (R_not rfl rfl) ?_
                    refine WL_val rfl rfl rfl (R_pickF rfl rfl rfl) ?_
                    refine WL_val rfl rfl rfl (R_pickT rfl rfl rfl) ?_
                    refine WL_val rfl rfl rfl (R_pickF rfl rfl rfl) ?_
                    refine WL_val rfl rfl rfl (R_move rfl rfl) ?_
                    refine WL_val rfl rfl rfl (R_move rfl rfl) ?_
                    refine WL_val rfl rfl rfl (R_loadA (vs := [_, _]) rfl ag25 rfl (mmY) rfl (atZ)) ?_
                    refine WL_val rfl rfl rfl (R_move rfl rfl) ?_
                    refine WL_do rfl rfl rfl (D_call (lwaits_okS (y.N + 1) (y.s.out v) m2 h2 one hv1 q9 y.ob (if y.c = 1 then y.kk else y.kk + 1) (y.c - 1) (y.pre ++ [.int .i64 v]) y.tl ownC hw2) rfl rfl rfl rfl (pqY)) ?_
                    rintro _ _ ⟨_, ⟨rfl, rfl⟩, rfl⟩
                    refine WL_val rfl rfl rfl (R_not rfl rfl) ?_
                    refine WL_val rfl rfl rfl (R_pickF rfl rfl rfl) ?_
                    refine WL_nil ?_
                    refine WQ_code ?_
                    refine WC_F rfl ?_
                    refine WC_skip ?_
                    refine WQ_code ?_
                    refine WC_seq ?_
                    refine WC_region ?_
                    refine WL_val rfl rfl rfl (R_assign rfl rfl) ?_
                    refine WL_nil ?_
                    refine WQ_code ?_
                    refine WC_block ?_
                    refine WC_loopF (G := Nat) [8,24,25,27,28,29,201,202,203,204,205,206,207,208,209,210,211,212,213,214,215,216,217,218,219,220,221,222,223,224,225,226,227,228,229,230,231,232] (fun j => j ≤ M) (fun j => [(24, .int .i64 (j : Int))]) (fun j => []) (fun j => M - j) (0) (Nat.zero_le _) leZ (pqY) ?_
                    rintro j hj
                    refine WC_seq ?_
                    refine WC_seq ?_
                    refine WC_region ?_
                    refine WL_val rfl rfl rfl (R_move rfl rfl) ?_
                    refine WL_val rfl rfl rfl (R_move rfl rfl) ?_
                    refine WL_val rfl rfl rfl (R_lss rfl rfl rfl) ?_
                    refine WL_nil ?_
                    refine WQ_code ?_
                    refine WC_dec rfl (fun c66 => ?_) (fun c66 => ?_)
                    · refine WC_skip ?_
                      refine WQ_code ?_
                      refine WC_seq ?_
                      refine WC_block ?_
                      refine WC_seq ?_
                      refine WC_region ?_
                      refine WL_val rfl rfl rfl (R_assign rfl rfl) ?_
                      refine WL_nil ?_
                      refine WQ_code ?_
                      refine WC_seq ?_
                      refine WC_seq ?_
                      refine WC_region ?_
                      refine WL_val rfl rfl rfl (R_move rfl rfl) ?_
                      refine WL_val rfl rfl rfl (R_len rfl Try.underlying32 rfl) ?_
                      refine WL_val rfl rfl rfl (R_move rfl rfl) ?_
                      refine WL_nil ?_
                      refine WQ_code ?_
                      refine WC_block ?_
                      refine WC_loopF (G := InW9) [25,27,208,209,210,211,212,213,214,215,216,217,218] (fun u => u.j ≤ q9.length ∧ (u.b = true ↔ ∃ v ∈ q9.take u.j, v = (j : Int))) (fun u => [(208, .int .i64 (u.j : Int)), (25, .bool u.b)]) (fun u => []) (fun u => q9.length - u.j) (⟨0, false⟩) (⟨Nat.zero_le _, by simp⟩) leZ (pqY) ?_
                      rintro u ⟨huj, hub⟩
                      refine WC_seq ?_
                      refine WC_region ?_
                      refine WL_val rfl rfl rfl (R_lss rfl rfl rfl) ?_
                      refine WL_nil ?_
                      refine WQ_code ?_
                      refine WC_seq ?_
                      refine WC_dec rfl (fun c67 => ?_) (fun c67 => ?_)
                      · refine WC_skip ?_
                        refine WQ_code ?_
                        refine WC_seq ?_
                        refine WC_block ?_
                        refine WC_seq ?_
                        refine WC_region ?_
                        obtain ⟨v9, hx⟩ := exE (T := q9) (i := u.j) (by omega)
                        obtain ⟨wb, hwb⟩ := (ownC).some_of (by omega)
                        refine WL_val rfl rfl rfl (R_indexS hwb rfl Try.underlying32 Try.sizeOf3 rfl rfl (by omega)) ?_
                        refine WL_val rfl rfl rfl (R_loadO hwb rfl sc3 rfl (mmY) (ownC.get encI1 hx (by omega) (j := 0) (by omega))) ?_
                        refine WL_val rfl rfl rfl (R_assign rfl rfl) ?_
                        refine WL_nil ?_
                        refine WQ_code ?_
                        refine WC_region ?_
                        refine WL_val rfl rfl rfl (R_move rfl rfl) ?_
                        refine WL_val rfl rfl rfl (R_move rfl rfl) ?_
                        refine WL_split (s := 213) rfl (fun c68 => ?_) (fun c68 => ?_)
                        · refine WL_skip rfl rfl rfl ?_
                          refine WL_skip rfl rfl rfl ?_
                          refine WL_skip rfl rfl rfl ?_
                          refine WL_val rfl rfl rfl (R_pickT rfl rfl rfl) ?_
                          refine WL_val rfl rfl rfl (R_assign rfl rfl) ?_
                          refine WL_nil ?_
                          refine WQ_code ?_
                          refine WC_region ?_
                          refine WL_val rfl rfl rfl (R_add rfl rfl rfl (by omega)) ?_
                          refine WL_val rfl rfl rfl (R_move rfl rfl) ?_
                          refine WL_nil ?_
                          refine WQ_nextF (⟨u.j + 1, true⟩) (⟨by dsimp only; omega, by dsimp only; rw [take_get hx]; obtain ⟨v8, hv8, e8⟩ := hub.1 (by assumption); exact ⟨fun _ => ⟨v8, List.mem_append_left _ hv8, e8⟩, fun _ => rfl⟩⟩) (by dsimp only; omega) leZ (psZ) rfl (pqY)
                        · refine WL_val rfl rfl rfl (R_move rfl rfl) ?_
                          refine WL_val rfl rfl rfl (R_move rfl rfl) ?_
                          refine WL_val rfl rfl rfl (R_eql rfl rfl rfl) ?_
                          refine WL_val rfl rfl rfl (R_pickF rfl rfl rfl) ?_
                          refine WL_val rfl rfl rfl (R_assign rfl rfl) ?_
                          refine WL_nil ?_
                          refine WQ_code ?_
                          refine WC_region ?_
                          refine WL_val rfl rfl rfl (R_add rfl rfl rfl (by omega)) ?_
                          refine WL_val rfl rfl rfl (R_move rfl rfl) ?_
                          refine WL_nil ?_
                          refine WQ_nextF (⟨u.j + 1, decide (v9 = (j : Int))⟩) (⟨by dsimp only; omega, by dsimp only; rw [take_get hx, decide_eq_true_eq]; exact ⟨fun e8 => ⟨v9, List.mem_append_right _ (List.mem_singleton.2 rfl), e8⟩, fun ⟨v8, hv8, e8⟩ => (List.mem_append.1 hv8).elim (fun h8 => absurd (hub.2 ⟨v8, h8, e8⟩) (by simp_all)) (fun h8 => (List.mem_singleton.1 h8) ▸ e8)⟩⟩) (by dsimp only; omega) leZ (psZ) rfl (pqY)
                      · rw [List.take_of_length_le (by omega)] at hub
                        refine WC_exit ?_
                        refine WQ_code ?_
                        refine WC_seq ?_
                        refine WC_region ?_
                        obtain ⟨x9, hx9⟩ := exE (T := (y.s.out v).sm) (i := j) (by omega)
                        have hst9 := stR_in hx9
                        have hin9 := in_state h2.ps hall2 hx9
                        rw [hq2] at hin9
                        have hb9 : u.b = decide (x9 = 2) := by rw [Bool.eq_iff_iff, hub, hin9]; simp
                        refine WL_val rfl rfl rfl (R_move rfl rfl) ?_
                        refine WL_val rfl rfl rfl (R_move rfl rfl) ?_
                        refine WL_do rfl rfl rfl (D_call (pk_state (y.N + 1) (y.s.out v) m2 h2 (j : Int)) rfl rfl rfl rfl (pqY)) ?_
                        rintro _ _ ⟨_, ⟨rfl, rfl⟩, rfl⟩
                        rw [hst9]
                        refine WL_val rfl rfl rfl (R_move rfl rfl) ?_
                        refine WL_val rfl rfl rfl (R_extract rfl rfl rfl) ?_
                        refine WL_val rfl rfl rfl (R_extract rfl rfl rfl) ?_
                        refine WL_val rfl rfl rfl (R_assign rfl rfl) ?_
                        refine WL_val rfl rfl rfl (R_assign rfl rfl) ?_
                        refine WL_nil ?_
                        refine WQ_code ?_
                        refine WC_seq ?_
                        refine WC_region ?_
                        refine WL_val rfl rfl rfl (R_move rfl rfl) ?_
                        refine WL_val rfl rfl rfl (R_neq rfl rfl rfl) ?_
                        refine WL_set (s := 226) (v := .bool false) rfl (by simp) ?_
                        refine WL_val rfl rfl rfl (R_move rfl rfl) ?_
                        refine WL_val rfl rfl rfl (R_move rfl rfl) ?_
                        refine WL_val rfl rfl rfl (R_move rfl rfl) ?_
                        refine WL_val rfl rfl rfl (R_eql rfl rfl rfl) ?_
                        refine WL_val rfl rfl rfl (R_boolNe rfl Try.underlying4 rfl rfl) ?_
                        refine WL_set (s := 231) (v := .bool false) rfl (by rw [hb9]; simp) ?_
                        refine WL_val rfl rfl rfl (R_pickF rfl rfl rfl) ?_
                        refine WL_nil ?_
                        refine WQ_code ?_
                        refine WC_F rfl ?_
                        refine WC_skip ?_
                        refine WQ_code ?_
                        refine WC_region ?_
                        refine WL_val rfl rfl rfl (R_move rfl rfl) ?_
                        refine WL_val rfl rfl rfl (R_add rfl rfl rfl (by omega)) ?_
                        refine WL_val rfl rfl rfl (R_assign rfl rfl) ?_
                        refine WL_nil ?_
                        refine WQ_nextF (j + 1) (by omega) (by omega) leZ (psZ) rfl (pqY)
                    · refine WC_exit ?_
                      refine WQ_code ?_
                      refine WC_region ?_
                      refine WL_val rfl rfl rfl (R_add rfl rfl rfl (by omega)) ?_
                      refine WL_val rfl rfl rfl (R_move rfl rfl) ?_
                      refine WL_nil ?_
                      refine WQ_nextF (⟨y.k + 1, (y.N + 1), (y.s.out v), m2, q9, y.ob, (if y.c = 1 then y.kk else y.kk + 1), y.c - 1, y.pre ++ [.int .i64 v], y.tl⟩) (⟨by dsimp only; omega, h2, by dsimp only; omega, rfl, hall2, hq2, ownC, hsl2⟩) (by dsimp only; omega) leZ (psZ) rfl (pqY)
                  · refine WL_skip rfl rfl rfl ?_
                    refine WL_skip rfl rfl rfl ?_
                    refine WL_skip rfl rfl rfl ?_
                    refine WL_skip rfl rfl rfl ?_
                    refine WL_skip rfl rfl rfl ?_
                    refine WL_skip rfl rfl rfl ?_
                    refine WL_skip rfl rfl rfl ?_
                    refine WL_skip rfl rfl rfl ?_
                    refine WL_skip rfl rfl rfl ?_
                    refine WL_val rfl rfl rfl (R_pickF rfl rfl rfl) ?_
                    refine WL_val rfl rfl rfl (R_pickF rfl rfl rfl) ?_
                    refine WL_val rfl rfl rfl (R_move rfl rfl) ?_
                    refine WL_val rfl rfl rfl (R_move rfl rfl) ?_
                    refine WL_val rfl rfl rfl (R_loadA (vs := [_, _]) rfl ag25 rfl (mmY) rfl (atZ)) ?_
                    refine WL_val rfl rfl rfl (R_move rfl rfl) ?_
                    refine WL_do rfl rfl rfl (D_call (lwaits_okS (y.N + 1) (y.s.out v) m2 h2 one hv1 q9 y.ob (if y.c = 1 then y.kk else y.kk + 1) (y.c - 1) (y.pre ++ [.int .i64 v]) y.tl ownC hw2) rfl rfl rfl rfl (pqY)) ?_
                    rintro _ _ ⟨_, ⟨rfl, rfl⟩, rfl⟩
                    refine WL_val rfl rfl rfl (R_not rfl rfl) ?_
                    refine WL_val rfl rfl rfl (R_pickF rfl rfl rfl) ?_
                    refine WL_nil ?_
                    refine WQ_code ?_
                    refine WC_F rfl ?_
                    refine WC_skip ?_
                    refine WQ_code ?_
                    refine WC_seq ?_
                    refine WC_region ?_
                    refine WL_val rfl rfl rfl (R_assign rfl rfl) ?_
                    refine WL_nil ?_
                    refine WQ_code ?_
                    refine WC_block ?_
                    refine WC_loopF (G := Nat) [8,24,25,27,28,29,201,202,203,204,205,206,207,208,209,210,211,212,213,214,215,216,217,218,219,220,221,222,223,224,225,226,227,228,229,230,231,232] (fun j => j ≤ M) (fun j => [(24, .int .i64 (j : Int))]) (fun j => []) (fun j => M - j) (0) (Nat.zero_le _) leZ (pqY) ?_
                    rintro j hj
                    refine WC_seq ?_
                    refine WC_seq ?_
                    refine WC_region ?_
                    refine WL_val rfl rfl rfl (R_move rfl rfl) ?_
                    refine WL_val rfl rfl rfl (R_move rfl rfl) ?_
                    refine WL_val rfl rfl rfl (R_lss rfl rfl rfl) ?_
                    refine WL_nil ?_
                    refine WQ_code ?_
                    refine WC_dec rfl (fun c69 => ?_) (fun c69 => ?_)
                    · refine WC_skip ?_
                      refine WQ_code ?_
                      refine WC_seq ?_
                      refine WC_block ?_
                      refine WC_seq ?_
                      refine WC_region ?_
                      refine WL_val rfl rfl rfl (R_assign rfl rfl) ?_
                      refine WL_nil ?_
                      refine WQ_code ?_
                      refine WC_seq ?_
                      refine WC_seq ?_
                      refine WC_region ?_
                      refine WL_val rfl rfl rfl (R_move rfl rfl) ?_
                      refine WL_val rfl rfl rfl (R_len rfl Try.underlying32 rfl) ?_
                      refine WL_val rfl rfl rfl (R_move rfl rfl) ?_
                      refine WL_nil ?_
                      refine WQ_code ?_
                      refine WC_block ?_
                      refine WC_loopF (G := InW9) [25,27,208,209,210,211,212,213,214,215,216,217,218] (fun u => u.j ≤ q9.length ∧ (u.b = true ↔ ∃ v ∈ q9.take u.j, v = (j : Int))) (fun u => [(208, .int .i64 (u.j : Int)), (25, .bool u.b)]) (fun u => []) (fun u => q9.length - u.j) (⟨0, false⟩) (⟨Nat.zero_le _, by simp⟩) leZ (pqY) ?_
                      rintro u ⟨huj, hub⟩
                      refine WC_seq ?_
                      refine WC_region ?_
                      refine WL_val rfl rfl rfl (R_lss rfl rfl rfl) ?_
                      refine WL_nil ?_
                      refine WQ_code ?_
                      refine WC_seq ?_
                      refine WC_dec rfl (fun c70 => ?_) (fun c70 => ?_)
                      · refine WC_skip ?_
                        refine WQ_code ?_
                        refine WC_seq ?_
                        refine WC_block ?_
                        refine WC_seq ?_
                        refine WC_region ?_
                        obtain ⟨v9, hx⟩ := exE (T := q9) (i := u.j) (by omega)
                        obtain ⟨wb, hwb⟩ := (ownC).some_of (by omega)
                        refine WL_val rfl rfl rfl (R_indexS hwb rfl Try.underlying32 Try.sizeOf3 rfl rfl (by omega)) ?_
                        refine WL_val rfl rfl rfl (R_loadO hwb rfl sc3 rfl (mmY) (ownC.get encI1 hx (by omega) (j := 0) (by omega))) ?_
                        refine WL_val rfl rfl rfl (R_assign rfl rfl) ?_
                        refine WL_nil ?_
                        refine WQ_code ?_
                        refine WC_region ?_
                        refine WL_val rfl rfl rfl (R_move rfl rfl) ?_
                        refine WL_val rfl rfl rfl (R_move rfl rfl) ?_
                        refine WL_split (s := 213) rfl (fun c71 => ?_) (fun c71 => ?_)
                        · refine WL_skip rfl rfl rfl ?_
                          refine WL_skip rfl rfl rfl ?_
                          refine WL_skip rfl rfl rfl ?_
                          refine WL_val rfl rfl rfl (R_pickT rfl rfl rfl) ?_
                          refine WL_val rfl rfl rfl (R_assign rfl rfl) ?_
                          refine WL_nil ?_
                          refine WQ_code ?_
                          refine WC_region ?_
                          refine WL_val rfl rfl rfl (R_add rfl rfl rfl (by omega)) ?_
                          refine WL_val rfl rfl rfl (R_move rfl rfl) ?_
                          refine WL_nil ?_
                          refine WQ_nextF (⟨u.j + 1, true⟩) (⟨by dsimp only; omega, by dsimp only; rw [take_get hx]; obtain ⟨v8, hv8, e8⟩ := hub.1 (by assumption); exact ⟨fun _ => ⟨v8, List.mem_append_left _ hv8, e8⟩, fun _ => rfl⟩⟩) (by dsimp only; omega) leZ (psZ) rfl (pqY)
                        · refine WL_val rfl rfl rfl (R_move rfl rfl) ?_
                          refine WL_val rfl rfl rfl (R_move rfl rfl) ?_
                          refine WL_val rfl rfl rfl (R_eql rfl rfl rfl) ?_
                          refine WL_val rfl rfl rfl (R_pickF rfl rfl rfl) ?_
                          refine WL_val rfl rfl rfl (R_assign rfl rfl) ?_
                          refine WL_nil ?_
                          refine WQ_code ?_
                          refine WC_region ?_
                          refine WL_val rfl rfl rfl (R_add rfl rfl rfl (by omega)) ?_
                          refine WL_val rfl rfl rfl (R_move rfl rfl) ?_
                          refine WL_nil ?_
                          refine WQ_nextF (⟨u.j + 1, decide (v9 = (j : Int))⟩) (⟨by dsimp only; omega, by dsimp only; rw [take_get hx, decide_eq_true_eq]; exact ⟨fun e8 => ⟨v9, List.mem_append_right _ (List.mem_singleton.2 rfl), e8⟩, fun ⟨v8, hv8, e8⟩ => (List.mem_append.1 hv8).elim (fun h8 => absurd (hub.2 ⟨v8, h8, e8⟩) (by simp_all)) (fun h8 => (List.mem_singleton.1 h8) ▸ e8)⟩⟩) (by dsimp only; omega) leZ (psZ) rfl (pqY)
                      · rw [List.take_of_length_le (by omega)] at hub
                        refine WC_exit ?_
                        refine WQ_code ?_
                        refine WC_seq ?_
                        refine WC_region ?_
                        obtain ⟨x9, hx9⟩ := exE (T := (y.s.out v).sm) (i := j) (by omega)
                        have hst9 := stR_in hx9
                        have hin9 := in_state h2.ps hall2 hx9
                        rw [hq2] at hin9
                        have hb9 : u.b = decide (x9 = 2) := by rw [Bool.eq_iff_iff, hub, hin9]; simp
                        refine WL_val rfl rfl rfl (R_move rfl rfl) ?_
                        refine WL_val rfl rfl rfl (R_move rfl rfl) ?_
                        refine WL_do rfl rfl rfl (D_call (pk_state (y.N + 1) (y.s.out v) m2 h2 (j : Int)) rfl rfl rfl rfl (pqY)) ?_
                        rintro _ _ ⟨_, ⟨rfl, rfl⟩, rfl⟩
                        rw [hst9]
                        refine WL_val rfl rfl rfl (R_move rfl rfl) ?_
                        refine WL_val rfl rfl rfl (R_extract rfl rfl rfl) ?_
                        refine WL_val rfl rfl rfl (R_extract rfl rfl rfl) ?_
                        refine WL_val rfl rfl rfl (R_assign rfl rfl) ?_
                        refine WL_val rfl rfl rfl (R_assign rfl rfl) ?_
                        refine WL_nil ?_
                        refine WQ_code ?_
                        refine WC_seq ?_
                        refine WC_region ?_
                        refine WL_val rfl rfl rfl (R_move rfl rfl) ?_
                        refine WL_val rfl rfl rfl (R_neq rfl rfl rfl) ?_
                        refine WL_set (s := 226) (v := .bool false) rfl (by simp) ?_
                        refine WL_val rfl rfl rfl (R_move rfl rfl) ?_
                        refine WL_val rfl rfl rfl (R_move rfl rfl) ?_
                        refine WL_val rfl rfl rfl (R_move rfl rfl) ?_
                        refine WL_val rfl rfl rfl (R_eql rfl rfl rfl) ?_
                        refine WL_val rfl rfl rfl (R_boolNe rfl Try.underlying4 rfl rfl) ?_
                        refine WL_set (s := 231) (v := .bool false) rfl (by rw [hb9]; simp) ?_
                        refine WL_val rfl rfl rfl (R_pickF rfl rfl rfl) ?_
                        refine WL_nil ?_
                        refine WQ_code ?_
                        refine WC_F rfl ?_
                        refine WC_skip ?_
                        refine WQ_code ?_
                        refine WC_region ?_
                        refine WL_val rfl rfl rfl (R_move rfl rfl) ?_
                        refine WL_val rfl rfl rfl (R_add rfl rfl rfl (by omega)) ?_
                        refine WL_val rfl rfl rfl (R_assign rfl rfl) ?_
                        refine WL_nil ?_
                        refine WQ_nextF (j + 1) (by omega) (by omega) leZ (psZ) rfl (pqY)
                    · refine WC_exit ?_
                      refine WQ_code ?_
                      refine WC_region ?_
                      refine WL_val rfl rfl rfl (R_add rfl rfl rfl (by omega)) ?_
                      refine WL_val rfl rfl rfl (R_move rfl rfl) ?_
                      refine WL_nil ?_
                      refine WQ_nextF (⟨y.k + 1, (y.N + 1), (y.s.out v), m2, q9, y.ob, (if y.c = 1 then y.kk else y.kk + 1), y.c - 1, y.pre ++ [.int .i64 v], y.tl⟩) (⟨by dsimp only; omega, h2, by dsimp only; omega, rfl, hall2, hq2, ownC, hsl2⟩) (by dsimp only; omega) leZ (psZ) rfl (pqY)
              · refine WC_seq ?_
                refine WC_region ?_
                refine WL_val rfl rfl rfl (R_eql rfl rfl rfl) ?_
                refine WL_val rfl rfl rfl (R_assign rfl rfl) ?_
                refine WL_nil ?_
                refine WQ_code ?_
                refine WC_dec rfl (fun c72 => ?_) (fun c72 => ?_)
                · refine WC_seq ?_
                  refine WC_region ?_
                  refine WL_val rfl rfl rfl (R_move rfl rfl) ?_
                  refine WL_val rfl rfl rfl (R_fieldAddr rfl fa48_1 rfl) ?_
                  refine WL_val rfl rfl rfl (R_load rfl sc3 rfl (mmY) rfl) ?_
                  refine WL_do rfl rfl rfl (D_call (pk_leave y.N y.s y.m hy (by omega) a.task) rfl rfl rfl rfl (pqY)) ?_
                  rintro _ _ ⟨_, ⟨m2, rfl, rfl, hp2, h2⟩, rfl⟩
                  rw [← hp2]
                  refine WL_val rfl rfl rfl (R_move rfl rfl) ?_
                  refine WL_val rfl rfl rfl (R_extract rfl rfl rfl) ?_
                  refine WL_val rfl rfl rfl (R_extract rfl rfl rfl) ?_
                  refine WL_do rfl rfl rfl (D_alloc rfl zv25) ?_
                  rintro _ _ ⟨b5, rfl, rfl⟩
                  refine WL_do0 rfl rfl (D_store (vs := [_, _]) rfl Try.sizeOf25 rfl rfl rfl rfl rfl (plY) (by exact Nat.le_of_ble_eq_true rfl)) ?_
                  rintro _ _ rfl
                  refine WL_val rfl rfl rfl (R_assign rfl rfl) ?_
                  refine WL_nil ?_
                  refine WQ_code ?_
                  refine WC_seq ?_
                  refine WC_seq ?_
                  refine WC_region ?_
                  refine WL_val rfl rfl rfl (R_move rfl rfl) ?_
                  refine WL_val rfl rfl rfl (R_neq rfl rfl rfl) ?_
                  refine WL_nil ?_
                  refine WQ_code ?_
                  refine WC_dec rfl (fun c73 => ?_) (fun c73 => ?_)
                  · rw [leave_no y.s c73] at h2
                    refine WC_exit ?_
                    refine WQ_code ?_
                    refine WC_region ?_
                    refine WL_val rfl rfl rfl (R_add rfl rfl rfl (by omega)) ?_
                    refine WL_val rfl rfl rfl (R_move rfl rfl) ?_
                    refine WL_nil ?_
                    refine WQ_nextF (⟨y.k + 1, (y.N + 1), y.s, m2, y.q, y.ob, y.kk, y.c, y.pre, y.tl⟩) (⟨by dsimp only; omega, h2, by dsimp only; omega, rfl, hall, hq, hyo, hsl⟩) (by dsimp only; omega) leZ (psZ) rfl (pqY)
                  · have h9 : (y.s.whr a.task).2 = 0 := Decidable.not_not.1 c73
                    obtain ⟨z, hz, hzi, hwh⟩ := whr_some hy.ps h9
                    have hza := hall z hz
                    rw [leave_yes y.s h9, hzi] at h2
                    refine WC_skip ?_
                    refine WQ_code ?_
                    refine WC_seq ?_
                    refine WC_seq ?_
                    refine WC_region ?_
                    refine WL_val rfl rfl rfl (R_loadA (vs := [_, _]) rfl ag25 rfl (mmY) rfl (atZ)) ?_
                    refine WL_val rfl rfl rfl (R_loadA (vs := [_, _]) rfl ag25 rfl (mmY) rfl (atZ)) ?_
                    refine WL_val rfl rfl rfl (R_sne25 rfl rfl rfl rfl) ?_
                    refine WL_nil ?_
                    refine WQ_code ?_
                    refine WC_dF rfl (by rw [hwh, hza]; simp) ?_
                    refine WC_skip ?_
                    refine WQ_code ?_
                    refine WC_seq ?_
                    refine WC_region ?_
                    refine WL_val rfl rfl rfl (R_assign rfl rfl) ?_
                    refine WL_nil ?_
                    refine WQ_code ?_
                    refine WC_seq ?_
                    refine WC_seq ?_
                    refine WC_region ?_
                    refine WL_val rfl rfl rfl (R_move rfl rfl) ?_
                    refine WL_val rfl rfl rfl (R_len rfl Try.underlying32 rfl) ?_
                    refine WL_val rfl rfl rfl (R_move rfl rfl) ?_
                    refine WL_nil ?_
                    refine WQ_code ?_
                    refine WC_block ?_
                    refine WC_none 3 ?_
                    refine WC_loopF (G := RiW) [20,22,156,157,158,159,160,161,162,163,164,165,166,167,168] (fun x => x.j ≤ y.q.length ∧ x.l = (y.q.take x.j).filter (fun v => decide (v ≠ (z.i : Int))) ∧ Own x.o x.l.length x.c 1 (ivs x.l) x.t) (fun x => [(156, .int .i64 (x.j : Int)), (20, slV x.o x.l.length x.c)]) (fun x => [⟨x.o, cl (ivs x.l ++ x.t) 3⟩]) (fun x => y.q.length - x.j) (⟨0, [], none, 0, []⟩) (⟨Nat.zero_le _, rfl, Own.empty 1⟩) leZ (pqY) ?_
                    rintro x ⟨hxj, hxl, hxo⟩
                    have hxn : x.l.length ≤ 64 := by rw [hxl]; exact Nat.le_trans (List.length_filter_le _ _) (by rw [List.length_take]; omega)
                    refine WC_seq ?_
                    refine WC_region ?_
                    refine WL_val rfl rfl rfl (R_lss rfl rfl rfl) ?_
                    refine WL_nil ?_
                    refine WQ_code ?_
                    refine WC_seq ?_
                    refine WC_dec rfl (fun c74 => ?_) (fun c74 => ?_)
                    · refine WC_skip ?_
                      refine WQ_code ?_
                      refine WC_seq ?_
                      refine WC_block ?_
                      refine WC_seq ?_
                      refine WC_region ?_
                      obtain ⟨v9, hx⟩ := exE (T := y.q) (i := x.j) (by omega)
                      obtain ⟨wb, hwb⟩ := hyo.some_of (by omega)
                      refine WL_val rfl rfl rfl (R_indexS hwb rfl Try.underlying32 Try.sizeOf3 rfl rfl (by omega)) ?_
                      refine WL_val rfl rfl rfl (R_loadO hwb rfl sc3 rfl (mmY) (hyo.get encI1 hx (by omega) (j := 0) (by omega))) ?_
                      refine WL_val rfl rfl rfl (R_assign rfl rfl) ?_
                      refine WL_nil ?_
                      refine WQ_code ?_
                      refine WC_seq ?_
                      refine WC_region ?_
                      refine WL_val rfl rfl rfl (R_move rfl rfl) ?_
                      refine WL_val rfl rfl rfl (R_fieldAddr rfl fa48_1 rfl) ?_
                      refine WL_val rfl rfl rfl (R_load rfl sc3 rfl (mmY) rfl) ?_
                      refine WL_val rfl rfl rfl (R_neq rfl rfl rfl) ?_
                      refine WL_nil ?_
                      refine WQ_code ?_
                      refine WC_dec rfl (fun c75 => ?_) (fun c75 => ?_)
                      · have hne9 : v9 ≠ (z.i : Int) := by omega
                        refine WC_region ?_
                        refine WL_val rfl rfl rfl (R_move rfl rfl) ?_
                        refine WL_val rfl rfl rfl (R_move rfl rfl) ?_
                        refine WL_do rfl rfl rfl (D_buildSlice rfl si32 rfl rfl rfl) ?_
                        rintro _ _ ⟨b6, rfl, rfl⟩
                        refine WL_do rfl rfl rfl (D_append rfl si32 rfl (hxo) (plY) rfl (mmY) ((atZ : At _ 0 [_])) (rfl) (rfl) (by omega) (by omega)) ?_
                        rintro _ _ ⟨ob7, cap7, tl7, rfl, own7, rfl⟩
                        rw [show ivs x.l ++ [Value.int .i64 v9] = ivs (x.l ++ [v9]) from by simp, show x.l.length + 1 = (x.l ++ [v9]).length from by simp] at *
                        refine WL_val rfl rfl rfl (R_assign rfl rfl) ?_
                        refine WL_nil ?_
                        refine WQ_code ?_
                        refine WC_region ?_
                        refine WL_val rfl rfl rfl (R_add rfl rfl rfl (by omega)) ?_
                        refine WL_val rfl rfl rfl (R_move rfl rfl) ?_
                        refine WL_nil ?_
                        refine WQ_nextF (⟨x.j + 1, x.l ++ [v9], ob7, cap7, tl7⟩) (⟨by dsimp only; omega, by dsimp only; rw [take_get hx, List.filter_append, ← hxl, filt_yes hne9], own7⟩) (by dsimp only; omega) leZ (psZ) rfl (pqY)
                      · have hne9 : v9 = (z.i : Int) := by omega
                        refine WC_skip ?_
                        refine WQ_code ?_
                        refine WC_region ?_
                        refine WL_val rfl rfl rfl (R_add rfl rfl rfl (by omega)) ?_
                        refine WL_val rfl rfl rfl (R_move rfl rfl) ?_
                        refine WL_nil ?_
                        refine WQ_nextF (⟨x.j + 1, x.l, x.o, x.c, x.t⟩) (⟨by dsimp only; omega, by dsimp only; rw [take_get hx, List.filter_append, ← hxl, filt_no hne9, List.append_nil], hxo⟩) (by dsimp only; omega) leZ (psZ) rfl (pqY)
                    · have hxfin : x.l = y.q.filter (fun v => decide (v ≠ (z.i : Int))) := by rw [hxl, List.take_of_length_le (by omega)]
                      refine WC_exit ?_
                      refine WQ_code ?_
                      refine WC_region ?_
                      refine WL_val rfl rfl rfl (R_move rfl rfl) ?_
                      refine WL_val rfl rfl rfl (R_assign rfl rfl) ?_
                      refine WL_nil ?_
                      refine WQ_code ?_
                      refine WC_seq ?_
                      refine WC_region ?_
                      have hall2 : ∀ w0 ∈ (y.s.out (z.i : Int)).W, w0.at_ = one := wOut_sub hall
                      have hq2 : wAt (y.s.out (z.i : Int)).W one = x.l := by show wAt (wOut _ _) one = _; rw [wAt_out, hq, hxfin]
                      have hw2 : (y.s.out (z.i : Int)).waiting one = x.l := (waiting_v hv1).trans hq2
                      have hql2 : x.l.length ≤ 64 := by rw [← hq2]; exact Nat.le_trans (wAt_len _ _) h2.ps.few
                      have hsl2 : (y.s.out (z.i : Int)).sm.length = M := by rw [out_len]; exact hsl
                      refine WL_val rfl rfl rfl (R_move rfl rfl) ?_
                      refine WL_val rfl rfl rfl (R_loadA (vs := [_, _]) rfl ag25 rfl (mmY) rfl (atZ)) ?_
                      refine WL_do rfl rfl rfl (D_call (pk_waiting (y.N + 1) (y.s.out (z.i : Int)) m2 h2 two) rfl rfl rfl rfl (pqY)) ?_
                      rintro _ _ ⟨_, ⟨o2, c2, t2, rfl, own2, rfl⟩, rfl⟩
                      refine WL_val rfl rfl rfl (R_move rfl rfl) ?_
                      refine WL_val rfl rfl rfl (R_extract rfl rfl rfl) ?_
                      refine WL_val rfl rfl rfl (R_extract rfl rfl rfl) ?_
                      refine WL_val rfl rfl rfl (R_assign rfl rfl) ?_
                      refine WL_val rfl rfl rfl (R_assign rfl rfl) ?_
                      refine WL_nil ?_
                      refine WQ_code ?_
                      refine WC_seq ?_
                      refine WC_seq ?_
                      refine WC_region ?_
                      refine WL_val rfl rfl rfl (R_move rfl rfl) ?_
                      refine WL_val rfl rfl rfl (R_neq rfl rfl rfl) ?_
                      refine WL_set (s := 177) (v := .bool false) rfl (by simp [hsp2]) ?_
                      refine WL_val rfl rfl rfl (R_move rfl rfl) ?_
                      refine WL_val rfl rfl rfl (R_loadA (vs := [_, _]) rfl ag25 rfl (mmY) rfl (atZ)) ?_
                      refine WL_val rfl rfl rfl (R_loadA (vs := [_, _]) rfl ag25 rfl (mmY) rfl (atZ)) ?_
                      refine WL_val rfl rfl rfl (R_sne25 rfl rfl rfl rfl) ?_
                      refine WL_val rfl rfl rfl (R_move rfl rfl) ?_
                      refine WL_splitD (s := 182) rfl (fun c76 => ?_) (fun c76 => ?_)
                      · have hne : one ≠ two := fun e => c76 (by rw [e]; exact ⟨rfl, rfl⟩)
                        have hwA : y.s.waiting two = [] := wait_none hall hne
                        have hwB := wait_none hall2 hne
                        rw [hwA] at own1
                        rw [hwB] at own2
                        rw [hwA]
                        try rw [hwB]
                        refine WL_val rfl rfl rfl (R_move rfl rfl) ?_
                        refine WL_val rfl rfl rfl (R_len rfl Try.underlying32 rfl) ?_
                        refine WL_val rfl rfl rfl (R_neq rfl rfl rfl) ?_
                        refine WL_set (s := 185) (v := .bool false) rfl (by simp) ?_
                        refine WL_val rfl rfl rfl (R_move rfl rfl) ?_
                        refine WL_val rfl rfl rfl (R_move rfl rfl) ?_
                        refine WL_val rfl rfl rfl (R_move rfl rfl) ?_
                        refine WL_do rfl rfl rfl (D_call (same_ok [] (by decide) o1 c1 t1 o2 c2 t2 own1 own2) rfl rfl rfl rfl (pqY)) ?_
                        rintro _ _ ⟨_, ⟨rfl, rfl⟩, rfl⟩
                        refine WL_val rfl rfl rfl (R_not rfl rfl) ?_
                        refine WL_val rfl rfl rfl (R_pickF rfl rfl rfl) ?_
                        refine WL_val rfl rfl rfl (R_pickT rfl rfl rfl) ?_
                        refine WL_val rfl rfl rfl (R_pickF rfl rfl rfl) ?_
                        refine WL_val rfl rfl rfl (R_move rfl rfl) ?_
                        refine WL_val rfl rfl rfl (R_move rfl rfl) ?_
                        refine WL_val rfl rfl rfl (R_loadA (vs := [_, _]) rfl ag25 rfl (mmY) rfl (atZ)) ?_
                        refine WL_val rfl rfl rfl (R_move rfl rfl) ?_
                        refine WL_do rfl rfl rfl (D_call (lwaits_okS (y.N + 1) (y.s.out (z.i : Int)) m2 h2 one hv1 x.l x.o 0 x.c [] x.t (OwnS.of hxo) hw2) rfl rfl rfl rfl (pqY)) ?_
                        rintro _ _ ⟨_, ⟨rfl, rfl⟩, rfl⟩
                        refine WL_val rfl rfl rfl (R_not rfl rfl) ?_
                        refine WL_val rfl rfl rfl (R_pickF rfl rfl rfl) ?_
                        refine WL_nil ?_
                        refine WQ_code ?_
                        refine WC_F rfl ?_
                        refine WC_skip ?_
                        refine WQ_code ?_
                        refine WC_seq ?_
                        refine WC_region ?_
                        refine WL_val rfl rfl rfl (R_assign rfl rfl) ?_
                        refine WL_nil ?_
                        refine WQ_code ?_
                        refine WC_block ?_
                        refine WC_loopF (G := Nat) [8,24,25,27,28,29,201,202,203,204,205,206,207,208,209,210,211,212,213,214,215,216,217,218,219,220,221,222,223,224,225,226,227,228,229,230,231,232] (fun j => j ≤ M) (fun j => [(24, .int .i64 (j : Int))]) (fun j => []) (fun j => M - j) (0) (Nat.zero_le _) leZ (pqY) ?_
                        rintro j hj
                        refine WC_seq ?_
                        refine WC_seq ?_
                        refine WC_region ?_
                        refine WL_val rfl rfl rfl (R_move rfl rfl) ?_
                        refine WL_val rfl rfl rfl (R_move rfl rfl) ?_
                        refine WL_val rfl rfl rfl (R_lss rfl rfl rfl) ?_
                        refine WL_nil ?_
                        refine WQ_code ?_
                        refine WC_dec rfl (fun c77 => ?_) (fun c77 => ?_)
                        · refine WC_skip ?_
                          refine WQ_code ?_
                          refine WC_seq ?_
                          refine WC_block ?_
                          refine WC_seq ?_
                          refine WC_region ?_
                          refine WL_val rfl rfl rfl (R_assign rfl rfl) ?_
                          refine WL_nil ?_
                          refine WQ_code ?_
                          refine WC_seq ?_
                          refine WC_seq ?_
                          refine WC_region ?_
                          refine WL_val rfl rfl rfl (R_move rfl rfl) ?_
                          refine WL_val rfl rfl rfl (R_len rfl Try.underlying32 rfl) ?_
                          refine WL_val rfl rfl rfl (R_move rfl rfl) ?_
                          refine WL_nil ?_
                          refine WQ_code ?_
                          refine WC_block ?_
                          refine WC_loopF (G := InW9) [25,27,208,209,210,211,212,213,214,215,216,217,218] (fun u => u.j ≤ x.l.length ∧ (u.b = true ↔ ∃ v ∈ x.l.take u.j, v = (j : Int))) (fun u => [(208, .int .i64 (u.j : Int)), (25, .bool u.b)]) (fun u => []) (fun u => x.l.length - u.j) (⟨0, false⟩) (⟨Nat.zero_le _, by simp⟩) leZ (pqY) ?_
                          rintro u ⟨huj, hub⟩
                          refine WC_seq ?_
                          refine WC_region ?_
                          refine WL_val rfl rfl rfl (R_lss rfl rfl rfl) ?_
                          refine WL_nil ?_
                          refine WQ_code ?_
                          refine WC_seq ?_
                          refine WC_dec rfl (fun c78 => ?_) (fun c78 => ?_)
                          · refine WC_skip ?_
                            refine WQ_code ?_
                            refine WC_seq ?_
                            refine WC_block ?_
                            refine WC_seq ?_
                            refine WC_region ?_
                            obtain ⟨v9, hx⟩ := exE (T := x.l) (i := u.j) (by omega)
                            obtain ⟨wb, hwb⟩ := ((OwnS.of hxo)).some_of (by omega)
                            refine WL_val rfl rfl rfl (R_indexS hwb rfl Try.underlying32 Try.sizeOf3 rfl rfl (by omega)) ?_
                            refine WL_val rfl rfl rfl (R_loadO hwb rfl sc3 rfl (mmY) ((OwnS.of hxo).get encI1 hx (by omega) (j := 0) (by omega))) ?_
                            refine WL_val rfl rfl rfl (R_assign rfl rfl) ?_
                            refine WL_nil ?_
                            refine WQ_code ?_
                            refine WC_region ?_
                            refine WL_val rfl rfl rfl (R_move rfl rfl) ?_
                            refine WL_val rfl rfl rfl (R_move rfl rfl) ?_
                            refine WL_split (s := 213) rfl (fun c79 => ?_) (fun c79 => ?_)
                            · refine WL_skip rfl rfl rfl ?_
                              refine WL_skip rfl rfl rfl ?_
                              refine WL_skip rfl rfl rfl ?_
                              refine WL_val rfl rfl rfl (R_pickT rfl rfl rfl) ?_
                              refine WL_val rfl rfl rfl (R_assign rfl rfl) ?_
                              refine WL_nil ?_
                              refine WQ_code ?_
                              refine WC_region ?_
                              refine WL_val rfl rfl rfl (R_add rfl rfl rfl (by omega)) ?_
                              refine WL_val rfl rfl rfl (R_move rfl rfl) ?_
                              refine WL_nil ?_
                              refine WQ_nextF (⟨u.j + 1, true⟩) (⟨by dsimp only; omega, by dsimp only; rw [take_get hx]; obtain ⟨v8, hv8, e8⟩ := hub.1 (by assumption); exact ⟨fun _ => ⟨v8, List.mem_append_left _ hv8, e8⟩, fun _ => rfl⟩⟩) (by dsimp only; omega) leZ (psZ) rfl (pqY)
                            · refine WL_val rfl rfl rfl (R_move rfl rfl) ?_
                              refine WL_val rfl rfl rfl (R_move rfl rfl) ?_
                              refine WL_val rfl rfl rfl (R_eql rfl rfl rfl) ?_
                              refine WL_val rfl rfl rfl (R_pickF rfl rfl rfl) ?_
                              refine WL_val rfl rfl rfl (R_assign rfl rfl) ?_
                              refine WL_nil ?_
                              refine WQ_code ?_
                              refine WC_region ?_
                              refine WL_val rfl rfl rfl (R_add rfl rfl rfl (by omega)) ?_
                              refine WL_val rfl rfl rfl (R_move rfl rfl) ?_
                              refine WL_nil ?_
                              refine WQ_nextF (⟨u.j + 1, decide (v9 = (j : Int))⟩) (⟨by dsimp only; omega, by dsimp only; rw [take_get hx, decide_eq_true_eq]; exact ⟨fun e8 => ⟨v9, List.mem_append_right _ (List.mem_singleton.2 rfl), e8⟩, fun ⟨v8, hv8, e8⟩ => (List.mem_append.1 hv8).elim (fun h8 => absurd (hub.2 ⟨v8, h8, e8⟩) (by simp_all)) (fun h8 => (List.mem_singleton.1 h8) ▸ e8)⟩⟩) (by dsimp only; omega) leZ (psZ) rfl (pqY)
                          · rw [List.take_of_length_le (by omega)] at hub
                            refine WC_exit ?_
                            refine WQ_code ?_
                            refine WC_seq ?_
                            refine WC_region ?_
                            obtain ⟨x9, hx9⟩ := exE (T := (y.s.out (z.i : Int)).sm) (i := j) (by omega)
                            have hst9 := stR_in hx9
                            have hin9 := in_state h2.ps hall2 hx9
                            rw [hq2] at hin9
                            have hb9 : u.b = decide (x9 = 2) := by rw [Bool.eq_iff_iff, hub, hin9]; simp
                            refine WL_val rfl rfl rfl (R_move rfl rfl) ?_
                            refine WL_val rfl rfl rfl (R_move rfl rfl) ?_
                            refine WL_do rfl rfl rfl (D_call (pk_state (y.N + 1) (y.s.out (z.i : Int)) m2 h2 (j : Int)) rfl rfl rfl rfl (pqY)) ?_
                            rintro _ _ ⟨_, ⟨rfl, rfl⟩, rfl⟩
                            rw [hst9]
                            refine WL_val rfl rfl rfl (R_move rfl rfl) ?_
                            refine WL_val rfl rfl rfl (R_extract rfl rfl rfl) ?_
                            refine WL_val rfl rfl rfl (R_extract rfl rfl rfl) ?_
                            refine WL_val rfl rfl rfl (R_assign rfl rfl) ?_
                            refine WL_val rfl rfl rfl (R_assign rfl rfl) ?_
                            refine WL_nil ?_
                            refine WQ_code ?_
                            refine WC_seq ?_
                            refine WC_region ?_
                            refine WL_val rfl rfl rfl (R_move rfl rfl) ?_
                            refine WL_val rfl rfl rfl (R_neq rfl rfl rfl) ?_
                            refine WL_set (s := 226) (v := .bool false) rfl (by simp) ?_
                            refine WL_val rfl rfl rfl (R_move rfl rfl) ?_
                            refine WL_val rfl rfl rfl (R_move rfl rfl) ?_
                            refine WL_val rfl rfl rfl (R_move rfl rfl) ?_
                            refine WL_val rfl rfl rfl (R_eql rfl rfl rfl) ?_
                            refine WL_val rfl rfl rfl (R_boolNe rfl Try.underlying4 rfl rfl) ?_
                            refine WL_set (s := 231) (v := .bool false) rfl (by rw [hb9]; simp) ?_
                            refine WL_val rfl rfl rfl (R_pickF rfl rfl rfl) ?_
                            refine WL_nil ?_
                            refine WQ_code ?_
                            refine WC_F rfl ?_
                            refine WC_skip ?_
                            refine WQ_code ?_
                            refine WC_region ?_
                            refine WL_val rfl rfl rfl (R_move rfl rfl) ?_
                            refine WL_val rfl rfl rfl (R_add rfl rfl rfl (by omega)) ?_
                            refine WL_val rfl rfl rfl (R_assign rfl rfl) ?_
                            refine WL_nil ?_
                            refine WQ_nextF (j + 1) (by omega) (by omega) leZ (psZ) rfl (pqY)
                        · refine WC_exit ?_
                          refine WQ_code ?_
                          refine WC_region ?_
                          refine WL_val rfl rfl rfl (R_add rfl rfl rfl (by omega)) ?_
                          refine WL_val rfl rfl rfl (R_move rfl rfl) ?_
                          refine WL_nil ?_
                          refine WQ_nextF (⟨y.k + 1, (y.N + 1), (y.s.out (z.i : Int)), m2, x.l, x.o, 0, x.c, [], x.t⟩) (⟨by dsimp only; omega, h2, by dsimp only; omega, rfl, hall2, hq2, (OwnS.of hxo), hsl2⟩) (by dsimp only; omega) leZ (psZ) rfl (pqY)
                      · refine WL_skip rfl rfl rfl ?_
                        refine WL_skip rfl rfl rfl ?_
                        refine WL_skip rfl rfl rfl ?_
                        refine WL_skip rfl rfl rfl ?_
                        refine WL_skip rfl rfl rfl ?_
                        refine WL_skip rfl rfl rfl ?_
                        refine WL_skip rfl rfl rfl ?_
                        refine WL_skip rfl rfl rfl ?_
                        refine WL_skip rfl rfl rfl ?_
                        refine WL_val rfl rfl rfl (R_pickF rfl rfl rfl) ?_
                        refine WL_val rfl rfl rfl (R_pickF rfl rfl rfl) ?_
                        refine WL_val rfl rfl rfl (R_move rfl rfl) ?_
                        refine WL_val rfl rfl rfl (R_move rfl rfl) ?_
                        refine WL_val rfl rfl rfl (R_loadA (vs := [_, _]) rfl ag25 rfl (mmY) rfl (atZ)) ?_
                        refine WL_val rfl rfl rfl (R_move rfl rfl) ?_
                        refine WL_do rfl rfl rfl (D_call (lwaits_okS (y.N + 1) (y.s.out (z.i : Int)) m2 h2 one hv1 x.l x.o 0 x.c [] x.t (OwnS.of hxo) hw2) rfl rfl rfl rfl (pqY)) ?_
                        rintro _ _ ⟨_, ⟨rfl, rfl⟩, rfl⟩
                        refine WL_val rfl rfl rfl (R_not rfl rfl) ?_
                        refine WL_val rfl rfl rfl (R_pickF rfl rfl rfl) ?_
                        refine WL_nil ?_
                        refine WQ_code ?_
                        refine WC_F rfl ?_
                        refine WC_skip ?_
                        refine WQ_code ?_
                        refine WC_seq ?_
                        refine WC_region ?_
                        refine WL_val rfl rfl rfl (R_assign rfl rfl) ?_
                        refine WL_nil ?_
                        refine WQ_code ?_
                        refine WC_block ?_
                        refine WC_loopF (G := Nat) [8,24,25,27,28,29,201,202,203,204,205,206,207,208,209,210,211,212,213,214,215,216,217,218,219,220,221,222,223,224,225,226,227,228,229,230,231,232] (fun j => j ≤ M) (fun j => [(24, .int .i64 (j : Int))]) (fun j => []) (fun j => M - j) (0) (Nat.zero_le _) leZ (pqY) ?_
                        rintro j hj
                        refine WC_seq ?_
                        refine WC_seq ?_
                        refine WC_region ?_
                        refine WL_val rfl rfl rfl (R_move rfl rfl) ?_
                        refine WL_val rfl rfl rfl (R_move rfl rfl) ?_
                        refine WL_val rfl rfl rfl (R_lss rfl rfl rfl) ?_
                        refine WL_nil ?_
                        refine WQ_code ?_
                        refine WC_dec rfl (fun c80 => ?_) (fun c80 => ?_)
                        · refine WC_skip ?_
                          refine WQ_code ?_
                          refine WC_seq ?_
                          refine WC_block ?_
                          refine WC_seq ?_
                          refine WC_region ?_
                          refine WL_val rfl rfl rfl (R_assign rfl rfl) ?_
                          refine WL_nil ?_
                          refine WQ_code ?_
                          refine WC_seq ?_
                          refine WC_seq ?_
                          refine WC_region ?_
                          refine WL_val rfl rfl rfl (R_move rfl rfl) ?_
                          refine WL_val rfl rfl rfl (R_len rfl Try.underlying32 rfl) ?_
                          refine WL_val rfl rfl rfl (R_move rfl rfl) ?_
                          refine WL_nil ?_
                          refine WQ_code ?_
                          refine WC_block ?_
                          refine WC_loopF (G := InW9) [25,27,208,209,210,211,212,213,214,215,216,217,218] (fun u => u.j ≤ x.l.length ∧ (u.b = true ↔ ∃ v ∈ x.l.take u.j, v = (j : Int))) (fun u => [(208, .int .i64 (u.j : Int)), (25, .bool u.b)]) (fun u => []) (fun u => x.l.length - u.j) (⟨0, false⟩) (⟨Nat.zero_le _, by simp⟩) leZ (pqY) ?_
                          rintro u ⟨huj, hub⟩
                          refine WC_seq ?_
                          refine WC_region ?_
                          refine WL_val rfl rfl rfl (R_lss rfl rfl rfl) ?_
                          refine WL_nil ?_
                          refine WQ_code ?_
                          refine WC_seq ?_
                          refine WC_dec rfl (fun c81 => ?_) (fun c81 => ?_)
                          · refine WC_skip ?_
                            refine WQ_code ?_
                            refine WC_seq ?_
                            refine WC_block ?_
                            refine WC_seq ?_
                            refine WC_region ?_
                            obtain ⟨v9, hx⟩ := exE (T := x.l) (i := u.j) (by omega)
                            obtain ⟨wb, hwb⟩ := ((OwnS.of hxo)).some_of (by omega)
                            refine WL_val rfl rfl rfl (R_indexS hwb rfl Try.underlying32 Try.sizeOf3 rfl rfl (by omega)) ?_
                            refine WL_val rfl rfl rfl (R_loadO hwb rfl sc3 rfl (mmY) ((OwnS.of hxo).get encI1 hx (by omega) (j := 0) (by omega))) ?_
                            refine WL_val rfl rfl rfl (R_assign rfl rfl) ?_
                            refine WL_nil ?_
                            refine WQ_code ?_
                            refine WC_region ?_
                            refine WL_val rfl rfl rfl (R_move rfl rfl) ?_
                            refine WL_val rfl rfl rfl (R_move rfl rfl) ?_
                            refine WL_split (s := 213) rfl (fun c82 => ?_) (fun c82 => ?_)
                            · refine WL_skip rfl rfl rfl ?_
                              refine WL_skip rfl rfl rfl ?_
                              refine WL_skip rfl rfl rfl ?_
                              refine WL_val rfl rfl rfl (R_pickT rfl rfl rfl) ?_
                              refine WL_val rfl rfl rfl (R_assign rfl rfl) ?_
                              refine WL_nil ?_
                              refine WQ_code ?_
                              refine WC_region ?_
                              refine WL_val rfl rfl rfl (R_add rfl rfl rfl (by omega)) ?_
                              refine WL_val rfl rfl rfl (R_move rfl rfl) ?_
                              refine WL_nil ?_
                              refine WQ_nextF (⟨u.j + 1, true⟩) (⟨by dsimp only; omega, by dsimp only; rw [take_get hx]; obtain ⟨v8, hv8, e8⟩ := hub.1 (by assumption); exact ⟨fun _ => ⟨v8, List.mem_append_left _ hv8, e8⟩, fun _ => rfl⟩⟩) (by dsimp only; omega) leZ (psZ) rfl (pqY)
                            · refine WL_val rfl rfl rfl (R_move rfl rfl) ?_
                              refine WL_val rfl rfl rfl (R_move rfl rfl) ?_
                              refine WL_val rfl rfl rfl (R_eql rfl rfl rfl) ?_
                              refine WL_val rfl rfl rfl (R_pickF rfl rfl rfl) ?_
                              refine WL_val rfl rfl rfl (R_assign rfl rfl) ?_
                              refine WL_nil ?_
                              refine WQ_code ?_
                              refine WC_region ?_
                              refine WL_val rfl rfl rfl (R_add rfl rfl rfl (by omega)) ?_
                              refine WL_val rfl rfl rfl (R_move rfl rfl) ?_
                              refine WL_nil ?_
                              refine WQ_nextF (⟨u.j + 1, decide (v9 = (j : Int))⟩) (⟨by dsimp only; omega, by dsimp only; rw [take_get hx, decide_eq_true_eq]; exact ⟨fun e8 => ⟨v9, List.mem_append_right _ (List.mem_singleton.2 rfl), e8⟩, fun ⟨v8, hv8, e8⟩ => (List.mem_append.1 hv8).elim (fun h8 => absurd (hub.2 ⟨v8, h8, e8⟩) (by simp_all)) (fun h8 => (List.mem_singleton.1 h8) ▸ e8)⟩⟩) (by dsimp only; omega) leZ (psZ) rfl (pqY)
                          · rw [List.take_of_length_le (by omega)] at hub
                            refine WC_exit ?_
                            refine WQ_code ?_
                            refine WC_seq ?_
                            refine WC_region ?_
                            obtain ⟨x9, hx9⟩ := exE (T := (y.s.out (z.i : Int)).sm) (i := j) (by omega)
                            have hst9 := stR_in hx9
                            have hin9 := in_state h2.ps hall2 hx9
                            rw [hq2] at hin9
                            have hb9 : u.b = decide (x9 = 2) := by rw [Bool.eq_iff_iff, hub, hin9]; simp
                            refine WL_val rfl rfl rfl (R_move rfl rfl) ?_
                            refine WL_val rfl rfl rfl (R_move rfl rfl) ?_
                            refine WL_do rfl rfl rfl (D_call (pk_state (y.N + 1) (y.s.out (z.i : Int)) m2 h2 (j : Int)) rfl rfl rfl rfl (pqY)) ?_
                            rintro _ _ ⟨_, ⟨rfl, rfl⟩, rfl⟩
                            rw [hst9]
                            refine WL_val rfl rfl rfl (R_move rfl rfl) ?_
                            refine WL_val rfl rfl rfl (R_extract rfl rfl rfl) ?_
                            refine WL_val rfl rfl rfl (R_extract rfl rfl rfl) ?_
                            refine WL_val rfl rfl rfl (R_assign rfl rfl) ?_
                            refine WL_val rfl rfl rfl (R_assign rfl rfl) ?_
                            refine WL_nil ?_
                            refine WQ_code ?_
                            refine WC_seq ?_
                            refine WC_region ?_
                            refine WL_val rfl rfl rfl (R_move rfl rfl) ?_
                            refine WL_val rfl rfl rfl (R_neq rfl rfl rfl) ?_
                            refine WL_set (s := 226) (v := .bool false) rfl (by simp) ?_
                            refine WL_val rfl rfl rfl (R_move rfl rfl) ?_
                            refine WL_val rfl rfl rfl (R_move rfl rfl) ?_
                            refine WL_val rfl rfl rfl (R_move rfl rfl) ?_
                            refine WL_val rfl rfl rfl (R_eql rfl rfl rfl) ?_
                            refine WL_val rfl rfl rfl (R_boolNe rfl Try.underlying4 rfl rfl) ?_
                            refine WL_set (s := 231) (v := .bool false) rfl (by rw [hb9]; simp) ?_
                            refine WL_val rfl rfl rfl (R_pickF rfl rfl rfl) ?_
                            refine WL_nil ?_
                            refine WQ_code ?_
                            refine WC_F rfl ?_
                            refine WC_skip ?_
                            refine WQ_code ?_
                            refine WC_region ?_
                            refine WL_val rfl rfl rfl (R_move rfl rfl) ?_
                            refine WL_val rfl rfl rfl (R_add rfl rfl rfl (by omega)) ?_
                            refine WL_val rfl rfl rfl (R_assign rfl rfl) ?_
                            refine WL_nil ?_
                            refine WQ_nextF (j + 1) (by omega) (by omega) leZ (psZ) rfl (pqY)
                        · refine WC_exit ?_
                          refine WQ_code ?_
                          refine WC_region ?_
                          refine WL_val rfl rfl rfl (R_add rfl rfl rfl (by omega)) ?_
                          refine WL_val rfl rfl rfl (R_move rfl rfl) ?_
                          refine WL_nil ?_
                          refine WQ_nextF (⟨y.k + 1, (y.N + 1), (y.s.out (z.i : Int)), m2, x.l, x.o, 0, x.c, [], x.t⟩) (⟨by dsimp only; omega, h2, by dsimp only; omega, rfl, hall2, hq2, (OwnS.of hxo), hsl2⟩) (by dsimp only; omega) leZ (psZ) rfl (pqY)
                · refine WC_skip ?_
                  refine WQ_code ?_
                  refine WC_seq ?_
                  refine WC_region ?_
                  have hall2 : ∀ w0 ∈ y.s.W, w0.at_ = one := hall
                  have hq2 : wAt y.s.W one = y.q := hq
                  have hw2 : y.s.waiting one = y.q := (waiting_v hv1).trans hq2
                  have hql2 : y.q.length ≤ 64 := by rw [← hq2]; exact Nat.le_trans (wAt_len _ _) hy.ps.few
                  have hsl2 : y.s.sm.length = M := by exact hsl
                  refine WL_val rfl rfl rfl (R_move rfl rfl) ?_
                  refine WL_val rfl rfl rfl (R_loadA (vs := [_, _]) rfl ag25 rfl (mmY) rfl (atZ)) ?_
                  refine WL_do rfl rfl rfl (D_call (pk_waiting y.N y.s y.m hy two) rfl rfl rfl rfl (pqY)) ?_
                  rintro _ _ ⟨_, ⟨o2, c2, t2, rfl, own2, rfl⟩, rfl⟩
                  refine WL_val rfl rfl rfl (R_move rfl rfl) ?_
                  refine WL_val rfl rfl rfl (R_extract rfl rfl rfl) ?_
                  refine WL_val rfl rfl rfl (R_extract rfl rfl rfl) ?_
                  refine WL_val rfl rfl rfl (R_assign rfl rfl) ?_
                  refine WL_val rfl rfl rfl (R_assign rfl rfl) ?_
                  refine WL_nil ?_
                  refine WQ_code ?_
                  refine WC_seq ?_
                  refine WC_seq ?_
                  refine WC_region ?_
                  refine WL_val rfl rfl rfl (R_move rfl rfl) ?_
                  refine WL_val rfl rfl rfl (R_neq rfl rfl rfl) ?_
                  refine WL_set (s := 177) (v := .bool false) rfl (by simp [hsp2]) ?_
                  refine WL_val rfl rfl rfl (R_move rfl rfl) ?_
                  refine WL_val rfl rfl rfl (R_loadA (vs := [_, _]) rfl ag25 rfl (mmY) rfl (atZ)) ?_
                  refine WL_val rfl rfl rfl (R_loadA (vs := [_, _]) rfl ag25 rfl (mmY) rfl (atZ)) ?_
                  refine WL_val rfl rfl rfl (R_sne25 rfl rfl rfl rfl) ?_
                  refine WL_val rfl rfl rfl (R_move rfl rfl) ?_
                  refine WL_splitD (s := 182) rfl (fun c83 => ?_) (fun c83 => ?_)
                  · have hne : one ≠ two := fun e => c83 (by rw [e]; exact ⟨rfl, rfl⟩)
                    have hwA : y.s.waiting two = [] := wait_none hall hne
                    have hwB := wait_none hall2 hne
                    rw [hwA] at own1
                    rw [hwB] at own2
                    rw [hwA]
                    try rw [hwB]
                    refine WL_val rfl rfl rfl (R_move rfl rfl) ?_
                    refine WL_val rfl rfl rfl (R_len rfl Try.underlying32 rfl) ?_
                    refine WL_val rfl rfl rfl (R_neq rfl rfl rfl) ?_
                    refine WL_set (s := 185) (v := .bool false) rfl (by simp) ?_
                    refine WL_val rfl rfl rfl (R_move rfl rfl) ?_
                    refine WL_val rfl rfl rfl (R_move rfl rfl) ?_
                    refine WL_val rfl rfl rfl (R_move rfl rfl) ?_
                    refine WL_do rfl rfl rfl (D_call (same_ok [] (by decide) o1 c1 t1 o2 c2 t2 own1 own2) rfl rfl rfl rfl (pqY)) ?_
                    rintro _ _ ⟨_, ⟨rfl, rfl⟩, rfl⟩
                    refine WL_val rfl rfl rfl (R_not rfl rfl) ?_
                    refine WL_val rfl rfl rfl (R_pickF rfl rfl rfl) ?_
                    refine WL_val rfl rfl rfl (R_pickT rfl rfl rfl) ?_
                    refine WL_val rfl rfl rfl (R_pickF rfl rfl rfl) ?_
                    refine WL_val rfl rfl rfl (R_move rfl rfl) ?_
                    refine WL_val rfl rfl rfl (R_move rfl rfl) ?_
                    refine WL_val rfl rfl rfl (R_loadA (vs := [_, _]) rfl ag25 rfl (mmY) rfl (atZ)) ?_
                    refine WL_val rfl rfl rfl (R_move rfl rfl) ?_
                    refine WL_do rfl rfl rfl (D_call (lwaits_okS y.N y.s y.m hy one hv1 y.q y.ob y.kk y.c y.pre y.tl hyo hw2) rfl rfl rfl rfl (pqY)) ?_
                    rintro _ _ ⟨_, ⟨rfl, rfl⟩, rfl⟩
                    refine WL_val rfl rfl rfl (R_not rfl rfl) ?_
                    refine WL_val rfl rfl rfl (R_pickF rfl rfl rfl) ?_
                    refine WL_nil ?_
                    refine WQ_code ?_
                    refine WC_F rfl ?_
                    refine WC_skip ?_
                    refine WQ_code ?_
                    refine WC_seq ?_
                    refine WC_region ?_
                    refine WL_val rfl rfl rfl (R_assign rfl rfl) ?_
                    refine WL_nil ?_
                    refine WQ_code ?_
                    refine WC_block ?_
                    refine WC_loopF (G := Nat) [8,24,25,27,28,29,201,202,203,204,205,206,207,208,209,210,211,212,213,214,215,216,217,218,219,220,221,222,223,224,225,226,227,228,229,230,231,232] (fun j => j ≤ M) (fun j => [(24, .int .i64 (j : Int))]) (fun j => []) (fun j => M - j) (0) (Nat.zero_le _) leZ (pqY) ?_
                    rintro j hj
                    refine WC_seq ?_
                    refine WC_seq ?_
                    refine WC_region ?_
                    refine WL_val rfl rfl rfl (R_move rfl rfl) ?_
                    refine WL_val rfl rfl rfl (R_move rfl rfl) ?_
                    refine WL_val rfl rfl rfl (R_lss rfl rfl rfl) ?_
                    refine WL_nil ?_
                    refine WQ_code ?_
                    refine WC_dec rfl (fun c84 => ?_) (fun c84 => ?_)
                    · refine WC_skip ?_
                      refine WQ_code ?_
                      refine WC_seq ?_
                      refine WC_block ?_
                      refine WC_seq ?_
                      refine WC_region ?_
                      refine WL_val rfl rfl rfl (R_assign rfl rfl) ?_
                      refine WL_nil ?_
                      refine WQ_code ?_
                      refine WC_seq ?_
                      refine WC_seq ?_
                      refine WC_region ?_
                      refine WL_val rfl rfl rfl (R_move rfl rfl) ?_
                      refine WL_val rfl rfl rfl (R_len rfl Try.underlying32 rfl) ?_
                      refine WL_val rfl rfl rfl (R_move rfl rfl) ?_
                      refine WL_nil ?_
                      refine WQ_code ?_
                      refine WC_block ?_
                      refine WC_loopF (G := InW9) [25,27,208,209,210,211,212,213,214,215,216,217,218] (fun u => u.j ≤ y.q.length ∧ (u.b = true ↔ ∃ v ∈ y.q.take u.j, v = (j : Int))) (fun u => [(208, .int .i64 (u.j : Int)), (25, .bool u.b)]) (fun u => []) (fun u => y.q.length - u.j) (⟨0, false⟩) (⟨Nat.zero_le _, by simp⟩) leZ (pqY) ?_
                      rintro u ⟨huj, hub⟩
                      refine WC_seq ?_
                      refine WC_region ?_
                      refine WL_val rfl rfl rfl (R_lss rfl rfl rfl) ?_
                      refine WL_nil ?_
                      refine WQ_code ?_
                      refine WC_seq ?_
                      refine WC_dec rfl (fun c85 => ?_) (fun c85 => ?_)
                      · refine WC_skip ?_
                        refine WQ_code ?_
                        refine WC_seq ?_
                        refine WC_block ?_
                        refine WC_seq ?_
                        refine WC_region ?_
                        obtain ⟨v9, hx⟩ := exE (T := y.q) (i := u.j) (by omega)
                        obtain ⟨wb, hwb⟩ := (hyo).some_of (by omega)
                        refine WL_val rfl rfl rfl (R_indexS hwb rfl Try.underlying32 Try.sizeOf3 rfl rfl (by omega)) ?_
                        refine WL_val rfl rfl rfl (R_loadO hwb rfl sc3 rfl (mmY) (hyo.get encI1 hx (by omega) (j := 0) (by omega))) ?_
                        refine WL_val rfl rfl rfl (R_assign rfl rfl) ?_
                        refine WL_nil ?_
                        refine WQ_code ?_
                        refine WC_region ?_
                        refine WL_val rfl rfl rfl (R_move rfl rfl) ?_
                        refine WL_val rfl rfl rfl (R_move rfl rfl) ?_
                        refine WL_split (s := 213) rfl (fun c86 => ?_) (fun c86 => ?_)
                        · refine WL_skip rfl rfl rfl ?_
                          refine WL_skip rfl rfl rfl ?_
                          refine WL_skip rfl rfl rfl ?_
                          refine WL_val rfl rfl rfl (R_pickT rfl rfl rfl) ?_
                          refine WL_val rfl rfl rfl (R_assign rfl rfl) ?_
                          refine WL_nil ?_
                          refine WQ_code ?_
                          refine WC_region ?_
                          refine WL_val rfl rfl rfl (R_add rfl rfl rfl (by omega)) ?_
                          refine WL_val rfl rfl rfl (R_move rfl rfl) ?_
                          refine WL_nil ?_
                          refine WQ_nextF (⟨u.j + 1, true⟩) (⟨by dsimp only; omega, by dsimp only; rw [take_get hx]; obtain ⟨v8, hv8, e8⟩ := hub.1 (by assumption); exact ⟨fun _ => ⟨v8, List.mem_append_left _ hv8, e8⟩, fun _ => rfl⟩⟩) (by dsimp only; omega) leZ (psZ) rfl (pqY)
                        · refine WL_val rfl rfl rfl (R_move rfl rfl) ?_
                          refine WL_val rfl rfl rfl (R_move rfl rfl) ?_
                          refine WL_val rfl rfl rfl (R_eql rfl rfl rfl) ?_
                          refine WL_val rfl rfl rfl (R_pickF rfl rfl rfl) ?_
                          refine WL_val rfl rfl rfl (R_assign rfl rfl) ?_
                          refine WL_nil ?_
                          refine WQ_code ?_
                          refine WC_region ?_
                          refine WL_val rfl rfl rfl (R_add rfl rfl rfl (by omega)) ?_
                          refine WL_val rfl rfl rfl (R_move rfl rfl) ?_
                          refine WL_nil ?_
                          refine WQ_nextF (⟨u.j + 1, decide (v9 = (j : Int))⟩) (⟨by dsimp only; omega, by dsimp only; rw [take_get hx, decide_eq_true_eq]; exact ⟨fun e8 => ⟨v9, List.mem_append_right _ (List.mem_singleton.2 rfl), e8⟩, fun ⟨v8, hv8, e8⟩ => (List.mem_append.1 hv8).elim (fun h8 => absurd (hub.2 ⟨v8, h8, e8⟩) (by simp_all)) (fun h8 => (List.mem_singleton.1 h8) ▸ e8)⟩⟩) (by dsimp only; omega) leZ (psZ) rfl (pqY)
                      · rw [List.take_of_length_le (by omega)] at hub
                        refine WC_exit ?_
                        refine WQ_code ?_
                        refine WC_seq ?_
                        refine WC_region ?_
                        obtain ⟨x9, hx9⟩ := exE (T := y.s.sm) (i := j) (by omega)
                        have hst9 := stR_in hx9
                        have hin9 := in_state hy.ps hall2 hx9
                        rw [hq2] at hin9
                        have hb9 : u.b = decide (x9 = 2) := by rw [Bool.eq_iff_iff, hub, hin9]; simp
                        refine WL_val rfl rfl rfl (R_move rfl rfl) ?_
                        refine WL_val rfl rfl rfl (R_move rfl rfl) ?_
                        refine WL_do rfl rfl rfl (D_call (pk_state y.N y.s y.m hy (j : Int)) rfl rfl rfl rfl (pqY)) ?_
                        rintro _ _ ⟨_, ⟨rfl, rfl⟩, rfl⟩
                        rw [hst9]
                        refine WL_val rfl rfl rfl (R_move rfl rfl) ?_
                        refine WL_val rfl rfl rfl (R_extract rfl rfl rfl) ?_
                        refine WL_val rfl rfl rfl (R_extract rfl rfl rfl) ?_
                        refine WL_val rfl rfl rfl (R_assign rfl rfl) ?_
                        refine WL_val rfl rfl rfl (R_assign rfl rfl) ?_
                        refine WL_nil ?_
                        refine WQ_code ?_
                        refine WC_seq ?_
                        refine WC_region ?_
                        refine WL_val rfl rfl rfl (R_move rfl rfl) ?_
                        refine WL_val rfl rfl rfl (R_neq rfl rfl rfl) ?_
                        refine WL_set (s := 226) (v := .bool false) rfl (by simp) ?_
                        refine WL_val rfl rfl rfl (R_move rfl rfl) ?_
                        refine WL_val rfl rfl rfl (R_move rfl rfl) ?_
                        refine WL_val rfl rfl rfl (R_move rfl rfl) ?_
                        refine WL_val rfl rfl rfl (R_eql rfl rfl rfl) ?_
                        refine WL_val rfl rfl rfl (R_boolNe rfl Try.underlying4 rfl rfl) ?_
                        refine WL_set (s := 231) (v := .bool false) rfl (by rw [hb9]; simp) ?_
                        refine WL_val rfl rfl rfl (R_pickF rfl rfl rfl) ?_
                        refine WL_nil ?_
                        refine WQ_code ?_
                        refine WC_F rfl ?_
                        refine WC_skip ?_
                        refine WQ_code ?_
                        refine WC_region ?_
                        refine WL_val rfl rfl rfl (R_move rfl rfl) ?_
                        refine WL_val rfl rfl rfl (R_add rfl rfl rfl (by omega)) ?_
                        refine WL_val rfl rfl rfl (R_assign rfl rfl) ?_
                        refine WL_nil ?_
                        refine WQ_nextF (j + 1) (by omega) (by omega) leZ (psZ) rfl (pqY)
                    · refine WC_exit ?_
                      refine WQ_code ?_
                      refine WC_region ?_
                      refine WL_val rfl rfl rfl (R_add rfl rfl rfl (by omega)) ?_
                      refine WL_val rfl rfl rfl (R_move rfl rfl) ?_
                      refine WL_nil ?_
                      refine WQ_nextF (⟨y.k + 1, y.N, y.s, y.m, y.q, y.ob, y.kk, y.c, y.pre, y.tl⟩) (⟨by dsimp only; omega, hy, by dsimp only; omega, rfl, hall2, hq2, hyo, hsl2⟩) (by dsimp only; omega) leZ (psZ) rfl (pqY)
                  · refine WL_skip rfl rfl rfl ?_
                    refine WL_skip rfl rfl rfl ?_
                    refine WL_skip rfl rfl rfl ?_
                    refine WL_skip rfl rfl rfl ?_
                    refine WL_skip rfl rfl rfl ?_
                    refine WL_skip rfl rfl rfl ?_
                    refine WL_skip rfl rfl rfl ?_
                    refine WL_skip rfl rfl rfl ?_
                    refine WL_skip rfl rfl rfl ?_
                    refine WL_val rfl rfl rfl (R_pickF rfl rfl rfl) ?_
                    refine WL_val rfl rfl rfl (R_pickF rfl rfl rfl) ?_
                    refine WL_val rfl rfl rfl (R_move rfl rfl) ?_
                    refine WL_val rfl rfl rfl (R_move rfl rfl) ?_
                    refine WL_val rfl rfl rfl (R_loadA (vs := [_, _]) rfl ag25 rfl (mmY) rfl (atZ)) ?_
                    refine WL_val rfl rfl rfl (R_move rfl rfl) ?_
                    refine WL_do rfl rfl rfl (D_call (lwaits_okS y.N y.s y.m hy one hv1 y.q y.ob y.kk y.c y.pre y.tl hyo hw2) rfl rfl rfl rfl (pqY)) ?_
                    rintro _ _ ⟨_, ⟨rfl, rfl⟩, rfl⟩
                    refine WL_val rfl rfl rfl (R_not rfl rfl) ?_
                    refine WL_val rfl rfl rfl (R_pickF rfl rfl rfl) ?_
                    refine WL_nil ?_
                    refine WQ_code ?_
                    refine WC_F rfl ?_
                    refine WC_skip ?_
                    refine WQ_code ?_
                    refine WC_seq ?_
                    refine WC_region ?_
                    refine WL_val rfl rfl rfl (R_assign rfl rfl) ?_
                    refine WL_nil ?_
                    refine WQ_code ?_
                    refine WC_block ?_
                    refine WC_loopF (G := Nat) [8,24,25,27,28,29,201,202,203,204,205,206,207,208,209,210,211,212,213,214,215,216,217,218,219,220,221,222,223,224,225,226,227,228,229,230,231,232] (fun j => j ≤ M) (fun j => [(24, .int .i64 (j : Int))]) (fun j => []) (fun j => M - j) (0) (Nat.zero_le _) leZ (pqY) ?_
                    rintro j hj
                    refine WC_seq ?_
                    refine WC_seq ?_
                    refine WC_region ?_
                    refine WL_val rfl rfl rfl (R_move rfl rfl) ?_
                    refine WL_val rfl rfl rfl (R_move rfl rfl) ?_
                    refine WL_val rfl rfl rfl (R_lss rfl rfl rfl) ?_
                    refine WL_nil ?_
                    refine WQ_code ?_
                    refine WC_dec rfl (fun c87 => ?_) (fun c87 => ?_)
                    · refine WC_skip ?_
                      refine WQ_code ?_
                      refine WC_seq ?_
                      refine WC_block ?_
                      refine WC_seq ?_
                      refine WC_region ?_
                      refine WL_val rfl rfl rfl (R_assign rfl rfl) ?_
                      refine WL_nil ?_
                      refine WQ_code ?_
                      refine WC_seq ?_
                      refine WC_seq ?_
                      refine WC_region ?_
                      refine WL_val rfl rfl rfl (R_move rfl rfl) ?_
                      refine WL_val rfl rfl rfl (R_len rfl Try.underlying32 rfl) ?_
                      refine WL_val rfl rfl rfl (R_move rfl rfl) ?_
                      refine WL_nil ?_
                      refine WQ_code ?_
                      refine WC_block ?_
                      refine WC_loopF (G := InW9) [25,27,208,209,210,211,212,213,214,215,216,217,218] (fun u => u.j ≤ y.q.length ∧ (u.b = true ↔ ∃ v ∈ y.q.take u.j, v = (j : Int))) (fun u => [(208, .int .i64 (u.j : Int)), (25, .bool u.b)]) (fun u => []) (fun u => y.q.length - u.j) (⟨0, false⟩) (⟨Nat.zero_le _, by simp⟩) leZ (pqY) ?_
                      rintro u ⟨huj, hub⟩
                      refine WC_seq ?_
                      refine WC_region ?_
                      refine WL_val rfl rfl rfl (R_lss rfl rfl rfl) ?_
                      refine WL_nil ?_
                      refine WQ_code ?_
                      refine WC_seq ?_
                      refine WC_dec rfl (fun c88 => ?_) (fun c88 => ?_)
                      · refine WC_skip ?_
                        refine WQ_code ?_
                        refine WC_seq ?_
                        refine WC_block ?_
                        refine WC_seq ?_
                        refine WC_region ?_
                        obtain ⟨v9, hx⟩ := exE (T := y.q) (i := u.j) (by omega)
                        obtain ⟨wb, hwb⟩ := (hyo).some_of (by omega)
                        refine WL_val rfl rfl rfl (R_indexS hwb rfl Try.underlying32 Try.sizeOf3 rfl rfl (by omega)) ?_
                        refine WL_val rfl rfl rfl (R_loadO hwb rfl sc3 rfl (mmY) (hyo.get encI1 hx (by omega) (j := 0) (by omega))) ?_
                        refine WL_val rfl rfl rfl (R_assign rfl rfl) ?_
                        refine WL_nil ?_
                        refine WQ_code ?_
                        refine WC_region ?_
                        refine WL_val rfl rfl rfl (R_move rfl rfl) ?_
                        refine WL_val rfl rfl rfl (R_move rfl rfl) ?_
                        refine WL_split (s := 213) rfl (fun c89 => ?_) (fun c89 => ?_)
                        · refine WL_skip rfl rfl rfl ?_
                          refine WL_skip rfl rfl rfl ?_
                          refine WL_skip rfl rfl rfl ?_
                          refine WL_val rfl rfl rfl (R_pickT rfl rfl rfl) ?_
                          refine WL_val rfl rfl rfl (R_assign rfl rfl) ?_
                          refine WL_nil ?_
                          refine WQ_code ?_
                          refine WC_region ?_
                          refine WL_val rfl rfl rfl (R_add rfl rfl rfl (by omega)) ?_
                          refine WL_val rfl rfl rfl (R_move rfl rfl) ?_
                          refine WL_nil ?_
                          refine WQ_nextF (⟨u.j + 1, true⟩) (⟨by dsimp only; omega, by dsimp only; rw [take_get hx]; obtain ⟨v8, hv8, e8⟩ := hub.1 (by assumption); exact ⟨fun _ => ⟨v8, List.mem_append_left _ hv8, e8⟩, fun _ => rfl⟩⟩) (by dsimp only; omega) leZ (psZ) rfl (pqY)
                        · refine WL_val rfl rfl rfl (R_move rfl rfl) ?_
                          refine WL_val rfl rfl rfl (R_move rfl rfl) ?_
                          refine WL_val rfl rfl rfl (R_eql rfl rfl rfl) ?_
                          refine WL_val rfl rfl rfl (R_pickF rfl rfl rfl) ?_
                          refine WL_val rfl rfl rfl (R_assign rfl rfl) ?_
                          refine WL_nil ?_
                          refine WQ_code ?_
                          refine WC_region ?_
                          refine WL_val rfl rfl rfl (R_add rfl rfl rfl (by omega)) ?_
                          refine WL_val rfl rfl rfl (R_move rfl rfl) ?_
                          refine WL_nil ?_
                          refine WQ_nextF (⟨u.j + 1, decide (v9 = (j : Int))⟩) (⟨by dsimp only; omega, by dsimp only; rw [take_get hx, decide_eq_true_eq]; exact ⟨fun e8 => ⟨v9, List.mem_append_right _ (List.mem_singleton.2 rfl), e8⟩, fun ⟨v8, hv8, e8⟩ => (List.mem_append.1 hv8).elim (fun h8 => absurd (hub.2 ⟨v8, h8, e8⟩) (by simp_all)) (fun h8 => (List.mem_singleton.1 h8) ▸ e8)⟩⟩) (by dsimp only; omega) leZ (psZ) rfl (pqY)
                      · rw [List.take_of_length_le (by omega)] at hub
                        refine WC_exit ?_
                        refine WQ_code ?_
                        refine WC_seq ?_
                        refine WC_region ?_
                        obtain ⟨x9, hx9⟩ := exE (T := y.s.sm) (i := j) (by omega)
                        have hst9 := stR_in hx9
                        have hin9 := in_state hy.ps hall2 hx9
                        rw [hq2] at hin9
                        have hb9 : u.b = decide (x9 = 2) := by rw [Bool.eq_iff_iff, hub, hin9]; simp
                        refine WL_val rfl rfl rfl (R_move rfl rfl) ?_
                        refine WL_val rfl rfl rfl (R_move rfl rfl) ?_
                        refine WL_do rfl rfl rfl (D_call (pk_state y.N y.s y.m hy (j : Int)) rfl rfl rfl rfl (pqY)) ?_
                        rintro _ _ ⟨_, ⟨rfl, rfl⟩, rfl⟩
                        rw [hst9]
                        refine WL_val rfl rfl rfl (R_move rfl rfl) ?_
                        refine WL_val rfl rfl rfl (R_extract rfl rfl rfl) ?_
                        refine WL_val rfl rfl rfl (R_extract rfl rfl rfl) ?_
                        refine WL_val rfl rfl rfl (R_assign rfl rfl) ?_
                        refine WL_val rfl rfl rfl (R_assign rfl rfl) ?_
                        refine WL_nil ?_
                        refine WQ_code ?_
                        refine WC_seq ?_
                        refine WC_region ?_
                        refine WL_val rfl rfl rfl (R_move rfl rfl) ?_
                        refine WL_val rfl rfl rfl (R_neq rfl rfl rfl) ?_
                        refine WL_set (s := 226) (v := .bool false) rfl (by simp) ?_
                        refine WL_val rfl rfl rfl (R_move rfl rfl) ?_
                        refine WL_val rfl rfl rfl (R_move rfl rfl) ?_
                        refine WL_val rfl rfl rfl (R_move rfl rfl) ?_
                        refine WL_val rfl rfl rfl (R_eql rfl rfl rfl) ?_
                        refine WL_val rfl rfl rfl (R_boolNe rfl Try.underlying4 rfl rfl) ?_
                        refine WL_set (s := 231) (v := .bool false) rfl (by rw [hb9]; simp) ?_
                        refine WL_val rfl rfl rfl (R_pickF rfl rfl rfl) ?_
                        refine WL_nil ?_
                        refine WQ_code ?_
                        refine WC_F rfl ?_
                        refine WC_skip ?_
                        refine WQ_code ?_
                        refine WC_region ?_
                        refine WL_val rfl rfl rfl (R_move rfl rfl) ?_
                        refine WL_val rfl rfl rfl (R_add rfl rfl rfl (by omega)) ?_
                        refine WL_val rfl rfl rfl (R_assign rfl rfl) ?_
                        refine WL_nil ?_
                        refine WQ_nextF (j + 1) (by omega) (by omega) leZ (psZ) rfl (pqY)
                    · refine WC_exit ?_
                      refine WQ_code ?_
                      refine WC_region ?_
                      refine WL_val rfl rfl rfl (R_add rfl rfl rfl (by omega)) ?_
                      refine WL_val rfl rfl rfl (R_move rfl rfl) ?_
                      refine WL_nil ?_
                      refine WQ_nextF (⟨y.k + 1, y.N, y.s, y.m, y.q, y.ob, y.kk, y.c, y.pre, y.tl⟩) (⟨by dsimp only; omega, hy, by dsimp only; omega, rfl, hall2, hq2, hyo, hsl2⟩) (by dsimp only; omega) leZ (psZ) rfl (pqY)
  · refine WC_exit ?_
    refine WQ_code ?_
    refine WC_seq ?_
    refine WC_region ?_
    refine WL_do rfl rfl rfl (D_call (known_ok) rfl rfl rfl rfl (pqY)) ?_
    rintro _ _ ⟨_, ⟨rfl, rfl⟩, rfl⟩
    refine WL_val rfl rfl rfl (R_assign rfl rfl) ?_
    refine WL_nil ?_
    refine WQ_code ?_
    refine WC_ret ?_
    refine WQ_ret rfl rfl (.cons (.tmp rfl) .nil) rfl (by
        exact ⟨rfl, rfl⟩) (pqY)

end Go.Proofs.Ytljmeemgjbcgeaa
