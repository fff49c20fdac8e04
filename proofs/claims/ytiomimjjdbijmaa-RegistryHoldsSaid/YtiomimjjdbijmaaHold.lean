/-
  Chapter 17 (registry), part Hold: contracts of functions that the laws call, each for the heap it names.
-/
import Derived.Test.YtiomimjjdbijmaaRows
import Derived.Test.YtiomimjjdbijmaaZB
import Derived.Test.YtiomimjjdbijmaaSLMapJ
import Derived.Test.YtiomimjjdbijmaaSLScope
import Derived.Test.YtiomimjjdbijmaaTab
import Derived.Test.YtiomimjjdbijmaaLaw6
import Derived.Test.YtiomimjjdbijmaaHold0
import Derived.Test.YtiomimjjdbijmaaIter
set_option linter.unusedVariables false
set_option maxRecDepth 20000
set_option maxHeartbeats 8000000
namespace Go.Proofs.Ytiomimjjdbijmaa


structure HlW where
  i : Nat
  W : List Bd
  r : Rg
  q : Rg
theorem holds_ok (hs : SortOk) (T : List RA) (oa : Option Addr) (c : Nat) (ent : Ent) (ha : Arg oa ent 4 encRA T) (hb : T.length ≤ 9223372036854775807) (name : ByteArray) : Spec Try.prog 4 [.slice oa T.length c, .string name] [ent] (fun x H' => x = .bool true ∧ H' = [ent]) := by
  refine Spec.of (E := [(0, .slice oa T.length c), (1, .string name)]) Try.func4 rfl (by kernel_rfl) Try.ntmps4 rfl rfl (fun w => ?_)
  refine WC_seq ?_
  refine WC_region ?_
  refine WL_val rfl rfl rfl (R_assign rfl rfl) ?_
  refine WL_nil ?_
  refine WQ_code ?_
  refine WC_seq ?_
  refine WC_seq ?_
  refine WC_region ?_
  refine WL_val rfl rfl rfl (R_move rfl rfl) ?_
  refine WL_do rfl rfl rfl (D_call (few_ok T oa c ent ha hb 30) rfl rfl rfl rfl (pqZ)) ?_
  rintro _ _ ⟨_, ⟨bf, rfl, hbf, rfl⟩, rfl⟩
  refine WL_val rfl rfl rfl (R_not rfl rfl) ?_
  refine WL_val rfl rfl rfl (R_move rfl rfl) ?_
  refine WL_split (s := 26) rfl (fun c1 => ?_) (fun c1 => ?_)
  · refine WL_skip rfl rfl rfl ?_
    refine WL_skip rfl rfl rfl ?_
    refine WL_skip rfl rfl rfl ?_
    refine WL_val rfl rfl rfl (R_pickT rfl rfl rfl) ?_
    refine WL_nil ?_
    refine WQ_code ?_
    refine WC_T rfl ?_
    refine WC_seq ?_
    refine WC_region ?_
    refine WL_do rfl rfl rfl (D_call (known_ok hs) rfl rfl rfl rfl (pqZ)) ?_
    rintro _ _ ⟨_, ⟨rfl, rfl⟩, rfl⟩
    refine WL_val rfl rfl rfl (R_assign rfl rfl) ?_
    refine WL_nil ?_
    refine WQ_code ?_
    refine WC_ret ?_
    refine WQ_ret rfl rfl (.cons (.tmp rfl) .nil) rfl (by
        exact ⟨rfl, rfl⟩) (pqZ)
  · have hT : (T.length : Int) ≤ 30 := hbf (by simpa using c1)
    refine WL_val rfl rfl rfl (R_move rfl rfl) ?_
    refine WL_do rfl rfl rfl (D_call (rname_ok name) rfl rfl rfl rfl (pqZ)) ?_
    rintro _ _ ⟨_, ⟨rfl, rfl⟩, rfl⟩
    refine WL_val rfl rfl rfl (R_not rfl rfl) ?_
    refine WL_val rfl rfl rfl (R_pickF rfl rfl rfl) ?_
    refine WL_nil ?_
    refine WQ_code ?_
    refine WC_if rfl (fun c2 => ?_) (fun c2 => ?_)
    · refine WC_seq ?_
      refine WC_region ?_
      refine WL_do rfl rfl rfl (D_call (known_ok hs) rfl rfl rfl rfl (pqZ)) ?_
      rintro _ _ ⟨_, ⟨rfl, rfl⟩, rfl⟩
      refine WL_val rfl rfl rfl (R_assign rfl rfl) ?_
      refine WL_nil ?_
      refine WQ_code ?_
      refine WC_ret ?_
      refine WQ_ret rfl rfl (.cons (.tmp rfl) .nil) rfl (by
          exact ⟨rfl, rfl⟩) (pqZ)
    · have hvn : validN name = true := by simpa using c2
      refine WC_skip ?_
      refine WQ_code ?_
      refine WC_seq ?_
      refine WC_region ?_
      refine WL_do rfl rfl rfl (D_call (rnew_ok) rfl rfl rfl rfl (pqZ)) ?_
      rintro _ _ ⟨_, ⟨r0, rfl, rfl, g0⟩, rfl⟩
      refine WL_do rfl rfl rfl (D_call (rnew_ok) rfl rfl rfl rfl (pqZ)) ?_
      rintro _ _ ⟨_, ⟨q0, rfl, rfl, h0⟩, rfl⟩
      refine WL_val rfl rfl rfl (R_assign rfl rfl) ?_
      refine WL_val rfl rfl rfl (R_assign rfl rfl) ?_
      refine WL_nil ?_
      refine WQ_code ?_
      refine WC_seq ?_
      refine WC_seq ?_
      refine WC_region ?_
      refine WL_val rfl rfl rfl (R_move rfl rfl) ?_
      refine WL_val rfl rfl rfl (R_ptrEqNil rfl Try.underlying25 rfl) ?_
      refine WL_val rfl rfl rfl (R_move rfl rfl) ?_
      refine WL_val rfl rfl rfl (R_move rfl rfl) ?_
      refine WL_val rfl rfl rfl (R_ptrEqNil rfl Try.underlying25 rfl) ?_
      refine WL_val rfl rfl rfl (R_pickF rfl rfl rfl) ?_
      refine WL_nil ?_
      refine WQ_code ?_
      refine WC_F rfl ?_
      refine WC_skip ?_
      refine WQ_code ?_
      refine WC_seq ?_
      refine WC_seq ?_
      refine WC_region ?_
      refine WL_val rfl rfl rfl (R_assign rfl rfl) ?_
      refine WL_nil ?_
      refine WQ_code ?_
      refine WC_block ?_
      refine WC_loopF (G := HlW) [4, 7, 8, 9, 10, 11, 12, 13, 14, 15, 16, 17, 18, 40, 41, 42, 43, 44, 45, 46, 47, 48, 49, 50, 51, 52, 53, 54, 55, 56, 57, 58, 59, 60, 61, 62, 63, 64, 65, 66, 67, 68, 69, 70, 71, 72, 73, 74, 75, 76, 77, 78, 79, 80, 81, 82, 83, 84, 85, 86, 87, 88, 89, 90, 91, 92, 93, 94, 95, 96, 97, 98, 99, 100, 101, 102, 103, 104, 105, 106, 107, 108, 109, 110, 111, 112, 113, 114, 115, 116, 117, 118, 119, 120, 121, 122, 123, 124, 125, 126, 127, 128, 129, 130, 131, 132, 133, 134, 135, 136, 137, 138, 139, 140, 141, 142, 143, 144, 145, 146, 147, 148, 149, 150, 151, 152, 153, 154, 155, 156, 157, 158, 159, 160, 161, 162, 163, 164, 165, 166, 167, 168, 169, 170, 171, 172, 173, 174, 175, 176, 177, 178, 179, 180, 181, 182, 183, 184, 185, 186, 187, 188, 189] (fun y => y.i ≤ T.length ∧ RgIs y.W y.r ∧ RgIs (onN name y.W) y.q ∧ HlIs y.i y.W ∧ y.r.p = r0.p ∧ y.q.p = q0.p) (fun y => [(7, .int .i64 (y.i : Int))]) (fun y => rgH y.r ++ rgH y.q) (fun y => T.length - y.i) (⟨0, [], r0, q0⟩) (⟨Nat.zero_le _, g0, h0, ⟨Nat.le_refl _, fun a h => by cases h⟩, rfl, rfl⟩) leZ (pqZ) ?_
      rintro y ⟨hyi, hyr, hyq, hyh, hyp, hyu⟩
      rw [← hyp, ← hyu]
      refine WC_seq ?_
      refine WC_seq ?_
      refine WC_region ?_
      refine WL_val rfl rfl rfl (R_move rfl rfl) ?_
      refine WL_val rfl rfl rfl (R_move rfl rfl) ?_
      refine WL_val rfl rfl rfl (R_len rfl Try.underlying37 rfl) ?_
      refine WL_val rfl rfl rfl (R_lss rfl rfl rfl) ?_
      refine WL_nil ?_
      refine WQ_code ?_
      refine WC_dec rfl (fun c3 => ?_) (fun c3 => ?_)
      · refine WC_skip ?_
        refine WQ_code ?_
        refine WC_seq ?_
        refine WC_block ?_
        refine WC_seq ?_
        refine WC_region ?_
        obtain ⟨a9, ha9⟩ := getE (T := T) (i := y.i) (by omega)
        obtain ⟨lb, lk, lcs, le, lfr, rfl, rfl, hat⟩ := ha.some (by omega)
        refine WL_val rfl rfl rfl (R_move rfl rfl) ?_
        refine WL_val rfl rfl rfl (R_move rfl rfl) ?_
        refine WL_val rfl rfl rfl (R_indexAddrN rfl Try.underlying37 Try.sizeOf41 rfl rfl (by omega)) ?_
        refine WL_val rfl rfl rfl (R_fieldAddr rfl fa41_1 rfl) ?_
        refine WL_val rfl rfl rfl (R_loadAG (vs := [.string a9.s, .int .i64 a9.p]) rfl ag23 rfl mmZ rfl (at_sub (hat y.i a9 ha9) 1 2 rfl)) ?_
        refine WL_do rfl rfl rfl (D_alloc rfl zv23) ?_
        rintro _ _ ⟨b1, rfl, rfl⟩
        refine WL_do0 rfl rfl (D_store (vs := [_, _]) rfl Try.sizeOf23 rfl rfl rfl rfl rfl (plZ) (by exact Nat.le_of_ble_eq_true rfl)) ?_
        rintro _ _ rfl
        refine WL_nil ?_
        refine WQ_code ?_
        refine WC_seq ?_
        refine WC_seq ?_
        refine WC_region ?_
        refine WL_val rfl rfl rfl (R_move rfl rfl) ?_
        refine WL_val rfl rfl rfl (R_move rfl rfl) ?_
        refine WL_val rfl rfl rfl (R_indexAddrN rfl Try.underlying37 Try.sizeOf41 rfl rfl (by omega)) ?_
        refine WL_val rfl rfl rfl (R_fieldAddr rfl fa41_0 rfl) ?_
        refine WL_val rfl rfl rfl (R_loadG (v := .int .i64 a9.wt) rfl sc3 rfl mmZ (hat y.i a9 ha9 0 _ rfl)) ?_
        refine WL_val rfl rfl rfl (R_neq rfl rfl rfl) ?_
        refine WL_nil ?_
        refine WQ_code ?_
        refine WC_dec rfl (fun c4 => ?_) (fun c4 => ?_)
        · by_cases hlk : (lookR y.W (a9.s, a9.p)).2 = 0
          · have hag := rel_again hyr.srt (by have := hyh.len; omega) hyh.pos hlk
            refine WC_seq ?_
            refine WC_region ?_
            refine WL_val rfl rfl rfl (R_move rfl rfl) ?_
            refine WL_val rfl rfl rfl (R_loadA (vs := [_, _]) rfl ag23 rfl (mmZ) rfl (atZ)) ?_
            refine WL_do rfl rfl rfl (D_call (rlook_ok hyr a9.s a9.p) rfl rfl rfl rfl (pqZ)) ?_
            rintro _ _ ⟨_, ⟨rfl, rfl⟩, rfl⟩
            refine WL_val rfl rfl rfl (R_move rfl rfl) ?_
            refine WL_val rfl rfl rfl (R_extract rfl rfl rfl) ?_
            refine WL_val rfl rfl rfl (R_extract rfl rfl rfl) ?_
            refine WL_val rfl rfl rfl (R_assign rfl rfl) ?_
            refine WL_val rfl rfl rfl (R_assign rfl rfl) ?_
            refine WL_nil ?_
            refine WQ_code ?_
            refine WC_seq ?_
            refine WC_region ?_
            refine WL_val rfl rfl rfl (R_move rfl rfl) ?_
            refine WL_val rfl rfl rfl (R_loadA (vs := [_, _]) rfl ag23 rfl (mmZ) rfl (atZ)) ?_
            refine WL_do rfl rfl rfl (D_call (rrel_ok hyr a9.s a9.p) rfl rfl rfl rfl (pqZ)) ?_
            rintro _ _ ⟨_, ⟨r2, rfl, rfl, p2, g2⟩, rfl⟩
            rw [← p2]
            refine WL_val rfl rfl rfl (R_move rfl rfl) ?_
            refine WL_val rfl rfl rfl (R_extract rfl rfl rfl) ?_
            refine WL_val rfl rfl rfl (R_extract rfl rfl rfl) ?_
            refine WL_val rfl rfl rfl (R_assign rfl rfl) ?_
            refine WL_val rfl rfl rfl (R_assign rfl rfl) ?_
            refine WL_nil ?_
            refine WQ_code ?_
            refine WC_seq ?_
            refine WC_seq ?_
            refine WC_region ?_
            refine WL_val rfl rfl rfl (R_move rfl rfl) ?_
            refine WL_val rfl rfl rfl (R_move rfl rfl) ?_
            refine WL_val rfl rfl rfl (R_neq rfl rfl rfl) ?_
            refine WL_set (s := 71) (v := .bool false) rfl (by simp) ?_
            refine WL_val rfl rfl rfl (R_move rfl rfl) ?_
            refine WL_val rfl rfl rfl (R_move rfl rfl) ?_
            refine WL_val rfl rfl rfl (R_move rfl rfl) ?_
            refine WL_val rfl rfl rfl (R_neq rfl rfl rfl) ?_
            refine WL_set (s := 75) (v := .bool false) rfl (by simp) ?_
            refine WL_val rfl rfl rfl (R_pickF rfl rfl rfl) ?_
            refine WL_nil ?_
            refine WQ_code ?_
            refine WC_F rfl ?_
            refine WC_skip ?_
            refine WQ_code ?_
            refine WC_seq ?_
            refine WC_seq ?_
            refine WC_region ?_
            refine WL_val rfl rfl rfl (R_fieldAddr rfl fa23_0 rfl) ?_
            refine WL_val rfl rfl rfl (R_load rfl sc9 rfl (mmZ) rfl) ?_
            refine WL_val rfl rfl rfl (R_move rfl rfl) ?_
            refine WL_val rfl rfl rfl (R_strEq rfl Try.underlying9 rfl rfl) ?_
            refine WL_nil ?_
            refine WQ_code ?_
            refine WC_dec rfl (fun c5 => ?_) (fun c5 => ?_)
            · have hne9 : a9.s = name := byt_inj c5
              refine WC_seq ?_
              refine WC_region ?_
              refine WL_val rfl rfl rfl (R_move rfl rfl) ?_
              refine WL_val rfl rfl rfl (R_loadA (vs := [_, _]) rfl ag23 rfl (mmZ) rfl (atZ)) ?_
              refine WL_do rfl rfl rfl (D_call (orel_ok hyr.srt hyq a9.s a9.p hne9) rfl rfl rfl rfl (pqZ)) ?_
              rintro _ _ ⟨_, ⟨q2, rfl, rfl, u2, h2⟩, rfl⟩
              rw [← u2]
              refine WL_val rfl rfl rfl (R_move rfl rfl) ?_
              refine WL_val rfl rfl rfl (R_extract rfl rfl rfl) ?_
              refine WL_val rfl rfl rfl (R_extract rfl rfl rfl) ?_
              refine WL_val rfl rfl rfl (R_assign rfl rfl) ?_
              refine WL_val rfl rfl rfl (R_assign rfl rfl) ?_
              refine WL_nil ?_
              refine WQ_code ?_
              refine WC_seq ?_
              refine WC_region ?_
              refine WL_val rfl rfl rfl (R_move rfl rfl) ?_
              refine WL_val rfl rfl rfl (R_move rfl rfl) ?_
              refine WL_val rfl rfl rfl (R_neq rfl rfl rfl) ?_
              refine WL_set (s := 89) (v := .bool false) rfl (by simp) ?_
              refine WL_val rfl rfl rfl (R_move rfl rfl) ?_
              refine WL_val rfl rfl rfl (R_move rfl rfl) ?_
              refine WL_val rfl rfl rfl (R_move rfl rfl) ?_
              refine WL_val rfl rfl rfl (R_neq rfl rfl rfl) ?_
              refine WL_set (s := 93) (v := .bool false) rfl (by simp) ?_
              refine WL_val rfl rfl rfl (R_pickF rfl rfl rfl) ?_
              refine WL_nil ?_
              refine WQ_code ?_
              refine WC_F rfl ?_
              refine WC_skip ?_
              refine WQ_code ?_
              refine WC_seq ?_
              refine WC_seq ?_
              refine WC_region ?_
              refine WL_val rfl rfl rfl (R_move rfl rfl) ?_
              refine WL_val rfl rfl rfl (R_eql rfl rfl rfl) ?_
              refine WL_set (s := 96) (v := .bool true) rfl (by exact congrArg Value.bool (decide_eq_true hlk)) ?_
              refine WL_val rfl rfl rfl (R_move rfl rfl) ?_
              refine WL_val rfl rfl rfl (R_move rfl rfl) ?_
              refine WL_val rfl rfl rfl (R_loadA (vs := [_, _]) rfl ag23 rfl (mmZ) rfl (atZ)) ?_
              refine WL_do rfl rfl rfl (D_call (finds_run g2 a9.s a9.p 0 9 hag.1) rfl rfl rfl rfl (pqZ)) ?_
              rintro _ _ ⟨_, ⟨rfl, rfl⟩, rfl⟩
              refine WL_val rfl rfl rfl (R_not rfl rfl) ?_
              refine WL_val rfl rfl rfl (R_move rfl rfl) ?_
              refine WL_val rfl rfl rfl (R_move rfl rfl) ?_
              refine WL_val rfl rfl rfl (R_loadA (vs := [_, _]) rfl ag23 rfl (mmZ) rfl (atZ)) ?_
              refine WL_val rfl rfl rfl (R_loadA (vs := [_, _]) rfl ag23 rfl (mmZ) rfl (atZ)) ?_
              refine WL_do rfl rfl rfl (D_call (binds_run g2 a9.s a9.p 5 a9.s a9.p 0 _ hag.2.1 rfl) rfl rfl rfl rfl (pqZ)) ?_
              rintro _ _ ⟨_, ⟨rfl, r3, rfl, p3, g3⟩, rfl⟩
              rw [← p3]
              refine WL_val rfl rfl rfl (R_not rfl rfl) ?_
              refine WL_val rfl rfl rfl (R_pickF rfl rfl rfl) ?_
              refine WL_val rfl rfl rfl (R_pickT rfl rfl rfl) ?_
              refine WL_nil ?_
              refine WQ_code ?_
              refine WC_F rfl ?_
              refine WC_skip ?_
              refine WQ_code ?_
              refine WC_seq ?_
              refine WC_seq ?_
              refine WC_region ?_
              refine WL_val rfl rfl rfl (R_move rfl rfl) ?_
              refine WL_val rfl rfl rfl (R_eql rfl rfl rfl) ?_
              refine WL_set (s := 111) (v := .bool true) rfl (by exact congrArg Value.bool (decide_eq_true hlk)) ?_
              refine WL_nil ?_
              refine WQ_code ?_
              refine WC_T rfl ?_
              refine WC_region ?_
              refine WL_val rfl rfl rfl (R_move rfl rfl) ?_
              refine WL_val rfl rfl rfl (R_loadA (vs := [_, _]) rfl ag23 rfl (mmZ) rfl (atZ)) ?_
              refine WL_do rfl rfl rfl (D_call (rel_run g3 a9.s a9.p 5 0 (relW y.W (a9.s, a9.p)) hag.2.2.1 hag.2.2.2) rfl rfl rfl rfl (pqZ)) ?_
              rintro _ _ ⟨_, ⟨r4, rfl, rfl, p4, g4⟩, rfl⟩
              rw [← p4]
              refine WL_nil ?_
              refine WQ_code ?_
              refine WC_exit ?_
              refine WQ_code ?_
              refine WC_region ?_
              refine WL_val rfl rfl rfl (R_move rfl rfl) ?_
              refine WL_val rfl rfl rfl (R_add rfl rfl rfl (by omega)) ?_
              refine WL_val rfl rfl rfl (R_assign rfl rfl) ?_
              refine WL_nil ?_
              refine WQ_nextF (gg := y) (⟨y.i + 1, relW y.W (a9.s, a9.p), r4, q2⟩) (⟨by dsimp only; omega, g4, h2, hyh.rel _, rfl, rfl⟩) (by dsimp only; omega) leZ (psZ) rfl (pqZ)
            · have hne9 : ¬ a9.s = name := fun e => c5 (by rw [e])
              refine WC_skip ?_
              refine WQ_code ?_
              refine WC_seq ?_
              refine WC_seq ?_
              refine WC_region ?_
              refine WL_val rfl rfl rfl (R_move rfl rfl) ?_
              refine WL_val rfl rfl rfl (R_eql rfl rfl rfl) ?_
              refine WL_set (s := 96) (v := .bool true) rfl (by exact congrArg Value.bool (decide_eq_true hlk)) ?_
              refine WL_val rfl rfl rfl (R_move rfl rfl) ?_
              refine WL_val rfl rfl rfl (R_move rfl rfl) ?_
              refine WL_val rfl rfl rfl (R_loadA (vs := [_, _]) rfl ag23 rfl (mmZ) rfl (atZ)) ?_
              refine WL_do rfl rfl rfl (D_call (finds_run g2 a9.s a9.p 0 9 hag.1) rfl rfl rfl rfl (pqZ)) ?_
              rintro _ _ ⟨_, ⟨rfl, rfl⟩, rfl⟩
              refine WL_val rfl rfl rfl (R_not rfl rfl) ?_
              refine WL_val rfl rfl rfl (R_move rfl rfl) ?_
              refine WL_val rfl rfl rfl (R_move rfl rfl) ?_
              refine WL_val rfl rfl rfl (R_loadA (vs := [_, _]) rfl ag23 rfl (mmZ) rfl (atZ)) ?_
              refine WL_val rfl rfl rfl (R_loadA (vs := [_, _]) rfl ag23 rfl (mmZ) rfl (atZ)) ?_
              refine WL_do rfl rfl rfl (D_call (binds_run g2 a9.s a9.p 5 a9.s a9.p 0 _ hag.2.1 rfl) rfl rfl rfl rfl (pqZ)) ?_
              rintro _ _ ⟨_, ⟨rfl, r3, rfl, p3, g3⟩, rfl⟩
              rw [← p3]
              refine WL_val rfl rfl rfl (R_not rfl rfl) ?_
              refine WL_val rfl rfl rfl (R_pickF rfl rfl rfl) ?_
              refine WL_val rfl rfl rfl (R_pickT rfl rfl rfl) ?_
              refine WL_nil ?_
              refine WQ_code ?_
              refine WC_F rfl ?_
              refine WC_skip ?_
              refine WQ_code ?_
              refine WC_seq ?_
              refine WC_seq ?_
              refine WC_region ?_
              refine WL_val rfl rfl rfl (R_move rfl rfl) ?_
              refine WL_val rfl rfl rfl (R_eql rfl rfl rfl) ?_
              refine WL_set (s := 111) (v := .bool true) rfl (by exact congrArg Value.bool (decide_eq_true hlk)) ?_
              refine WL_nil ?_
              refine WQ_code ?_
              refine WC_T rfl ?_
              refine WC_region ?_
              refine WL_val rfl rfl rfl (R_move rfl rfl) ?_
              refine WL_val rfl rfl rfl (R_loadA (vs := [_, _]) rfl ag23 rfl (mmZ) rfl (atZ)) ?_
              refine WL_do rfl rfl rfl (D_call (rel_run g3 a9.s a9.p 5 0 (relW y.W (a9.s, a9.p)) hag.2.2.1 hag.2.2.2) rfl rfl rfl rfl (pqZ)) ?_
              rintro _ _ ⟨_, ⟨r4, rfl, rfl, p4, g4⟩, rfl⟩
              rw [← p4]
              refine WL_nil ?_
              refine WQ_code ?_
              refine WC_exit ?_
              refine WQ_code ?_
              refine WC_region ?_
              refine WL_val rfl rfl rfl (R_move rfl rfl) ?_
              refine WL_val rfl rfl rfl (R_add rfl rfl rfl (by omega)) ?_
              refine WL_val rfl rfl rfl (R_assign rfl rfl) ?_
              refine WL_nil ?_
              refine WQ_nextF (gg := y) (⟨y.i + 1, relW y.W (a9.s, a9.p), r4, y.q⟩) (⟨by dsimp only; omega, g4, by rw [onN_rel_ne (a := (a9.s, a9.p)) hne9]; exact hyq, hyh.rel _, rfl, rfl⟩) (by dsimp only; omega) leZ (psZ) rfl (pqZ)
          · refine WC_seq ?_
            refine WC_region ?_
            refine WL_val rfl rfl rfl (R_move rfl rfl) ?_
            refine WL_val rfl rfl rfl (R_loadA (vs := [_, _]) rfl ag23 rfl (mmZ) rfl (atZ)) ?_
            refine WL_do rfl rfl rfl (D_call (rlook_ok hyr a9.s a9.p) rfl rfl rfl rfl (pqZ)) ?_
            rintro _ _ ⟨_, ⟨rfl, rfl⟩, rfl⟩
            refine WL_val rfl rfl rfl (R_move rfl rfl) ?_
            refine WL_val rfl rfl rfl (R_extract rfl rfl rfl) ?_
            refine WL_val rfl rfl rfl (R_extract rfl rfl rfl) ?_
            refine WL_val rfl rfl rfl (R_assign rfl rfl) ?_
            refine WL_val rfl rfl rfl (R_assign rfl rfl) ?_
            refine WL_nil ?_
            refine WQ_code ?_
            refine WC_seq ?_
            refine WC_region ?_
            refine WL_val rfl rfl rfl (R_move rfl rfl) ?_
            refine WL_val rfl rfl rfl (R_loadA (vs := [_, _]) rfl ag23 rfl (mmZ) rfl (atZ)) ?_
            refine WL_do rfl rfl rfl (D_call (rrel_ok hyr a9.s a9.p) rfl rfl rfl rfl (pqZ)) ?_
            rintro _ _ ⟨_, ⟨r2, rfl, rfl, p2, g2⟩, rfl⟩
            rw [← p2]
            refine WL_val rfl rfl rfl (R_move rfl rfl) ?_
            refine WL_val rfl rfl rfl (R_extract rfl rfl rfl) ?_
            refine WL_val rfl rfl rfl (R_extract rfl rfl rfl) ?_
            refine WL_val rfl rfl rfl (R_assign rfl rfl) ?_
            refine WL_val rfl rfl rfl (R_assign rfl rfl) ?_
            refine WL_nil ?_
            refine WQ_code ?_
            refine WC_seq ?_
            refine WC_seq ?_
            refine WC_region ?_
            refine WL_val rfl rfl rfl (R_move rfl rfl) ?_
            refine WL_val rfl rfl rfl (R_move rfl rfl) ?_
            refine WL_val rfl rfl rfl (R_neq rfl rfl rfl) ?_
            refine WL_set (s := 71) (v := .bool false) rfl (by simp) ?_
            refine WL_val rfl rfl rfl (R_move rfl rfl) ?_
            refine WL_val rfl rfl rfl (R_move rfl rfl) ?_
            refine WL_val rfl rfl rfl (R_move rfl rfl) ?_
            refine WL_val rfl rfl rfl (R_neq rfl rfl rfl) ?_
            refine WL_set (s := 75) (v := .bool false) rfl (by simp) ?_
            refine WL_val rfl rfl rfl (R_pickF rfl rfl rfl) ?_
            refine WL_nil ?_
            refine WQ_code ?_
            refine WC_F rfl ?_
            refine WC_skip ?_
            refine WQ_code ?_
            refine WC_seq ?_
            refine WC_seq ?_
            refine WC_region ?_
            refine WL_val rfl rfl rfl (R_fieldAddr rfl fa23_0 rfl) ?_
            refine WL_val rfl rfl rfl (R_load rfl sc9 rfl (mmZ) rfl) ?_
            refine WL_val rfl rfl rfl (R_move rfl rfl) ?_
            refine WL_val rfl rfl rfl (R_strEq rfl Try.underlying9 rfl rfl) ?_
            refine WL_nil ?_
            refine WQ_code ?_
            refine WC_dec rfl (fun c6 => ?_) (fun c6 => ?_)
            · have hne9 : a9.s = name := byt_inj c6
              refine WC_seq ?_
              refine WC_region ?_
              refine WL_val rfl rfl rfl (R_move rfl rfl) ?_
              refine WL_val rfl rfl rfl (R_loadA (vs := [_, _]) rfl ag23 rfl (mmZ) rfl (atZ)) ?_
              refine WL_do rfl rfl rfl (D_call (orel_ok hyr.srt hyq a9.s a9.p hne9) rfl rfl rfl rfl (pqZ)) ?_
              rintro _ _ ⟨_, ⟨q2, rfl, rfl, u2, h2⟩, rfl⟩
              rw [← u2]
              refine WL_val rfl rfl rfl (R_move rfl rfl) ?_
              refine WL_val rfl rfl rfl (R_extract rfl rfl rfl) ?_
              refine WL_val rfl rfl rfl (R_extract rfl rfl rfl) ?_
              refine WL_val rfl rfl rfl (R_assign rfl rfl) ?_
              refine WL_val rfl rfl rfl (R_assign rfl rfl) ?_
              refine WL_nil ?_
              refine WQ_code ?_
              refine WC_seq ?_
              refine WC_region ?_
              refine WL_val rfl rfl rfl (R_move rfl rfl) ?_
              refine WL_val rfl rfl rfl (R_move rfl rfl) ?_
              refine WL_val rfl rfl rfl (R_neq rfl rfl rfl) ?_
              refine WL_set (s := 89) (v := .bool false) rfl (by simp) ?_
              refine WL_val rfl rfl rfl (R_move rfl rfl) ?_
              refine WL_val rfl rfl rfl (R_move rfl rfl) ?_
              refine WL_val rfl rfl rfl (R_move rfl rfl) ?_
              refine WL_val rfl rfl rfl (R_neq rfl rfl rfl) ?_
              refine WL_set (s := 93) (v := .bool false) rfl (by simp) ?_
              refine WL_val rfl rfl rfl (R_pickF rfl rfl rfl) ?_
              refine WL_nil ?_
              refine WQ_code ?_
              refine WC_F rfl ?_
              refine WC_skip ?_
              refine WQ_code ?_
              refine WC_seq ?_
              refine WC_seq ?_
              refine WC_region ?_
              refine WL_val rfl rfl rfl (R_move rfl rfl) ?_
              refine WL_val rfl rfl rfl (R_eql rfl rfl rfl) ?_
              refine WL_set (s := 96) (v := .bool false) rfl (by exact congrArg Value.bool (decide_eq_false hlk)) ?_
              refine WL_val rfl rfl rfl (R_move rfl rfl) ?_
              refine WL_skip rfl rfl rfl ?_
              refine WL_skip rfl rfl rfl ?_
              refine WL_skip rfl rfl rfl ?_
              refine WL_skip rfl rfl rfl ?_
              refine WL_skip rfl rfl rfl ?_
              refine WL_skip rfl rfl rfl ?_
              refine WL_skip rfl rfl rfl ?_
              refine WL_skip rfl rfl rfl ?_
              refine WL_skip rfl rfl rfl ?_
              refine WL_skip rfl rfl rfl ?_
              refine WL_skip rfl rfl rfl ?_
              refine WL_val rfl rfl rfl (R_pickF rfl rfl rfl) ?_
              refine WL_nil ?_
              refine WQ_code ?_
              refine WC_F rfl ?_
              refine WC_skip ?_
              refine WQ_code ?_
              refine WC_seq ?_
              refine WC_seq ?_
              refine WC_region ?_
              refine WL_val rfl rfl rfl (R_move rfl rfl) ?_
              refine WL_val rfl rfl rfl (R_eql rfl rfl rfl) ?_
              refine WL_set (s := 111) (v := .bool false) rfl (by exact congrArg Value.bool (decide_eq_false hlk)) ?_
              refine WL_nil ?_
              refine WQ_code ?_
              refine WC_F rfl ?_
              refine WC_skip ?_
              refine WQ_code ?_
              refine WC_exit ?_
              refine WQ_code ?_
              refine WC_region ?_
              refine WL_val rfl rfl rfl (R_move rfl rfl) ?_
              refine WL_val rfl rfl rfl (R_add rfl rfl rfl (by omega)) ?_
              refine WL_val rfl rfl rfl (R_assign rfl rfl) ?_
              refine WL_nil ?_
              refine WQ_nextF (gg := y) (⟨y.i + 1, relW y.W (a9.s, a9.p), r2, q2⟩) (⟨by dsimp only; omega, g2, h2, hyh.rel _, rfl, rfl⟩) (by dsimp only; omega) leZ (psZ) rfl (pqZ)
            · have hne9 : ¬ a9.s = name := fun e => c6 (by rw [e])
              refine WC_skip ?_
              refine WQ_code ?_
              refine WC_seq ?_
              refine WC_seq ?_
              refine WC_region ?_
              refine WL_val rfl rfl rfl (R_move rfl rfl) ?_
              refine WL_val rfl rfl rfl (R_eql rfl rfl rfl) ?_
              refine WL_set (s := 96) (v := .bool false) rfl (by exact congrArg Value.bool (decide_eq_false hlk)) ?_
              refine WL_val rfl rfl rfl (R_move rfl rfl) ?_
              refine WL_skip rfl rfl rfl ?_
              refine WL_skip rfl rfl rfl ?_
              refine WL_skip rfl rfl rfl ?_
              refine WL_skip rfl rfl rfl ?_
              refine WL_skip rfl rfl rfl ?_
              refine WL_skip rfl rfl rfl ?_
              refine WL_skip rfl rfl rfl ?_
              refine WL_skip rfl rfl rfl ?_
              refine WL_skip rfl rfl rfl ?_
              refine WL_skip rfl rfl rfl ?_
              refine WL_skip rfl rfl rfl ?_
              refine WL_val rfl rfl rfl (R_pickF rfl rfl rfl) ?_
              refine WL_nil ?_
              refine WQ_code ?_
              refine WC_F rfl ?_
              refine WC_skip ?_
              refine WQ_code ?_
              refine WC_seq ?_
              refine WC_seq ?_
              refine WC_region ?_
              refine WL_val rfl rfl rfl (R_move rfl rfl) ?_
              refine WL_val rfl rfl rfl (R_eql rfl rfl rfl) ?_
              refine WL_set (s := 111) (v := .bool false) rfl (by exact congrArg Value.bool (decide_eq_false hlk)) ?_
              refine WL_nil ?_
              refine WQ_code ?_
              refine WC_F rfl ?_
              refine WC_skip ?_
              refine WQ_code ?_
              refine WC_exit ?_
              refine WQ_code ?_
              refine WC_region ?_
              refine WL_val rfl rfl rfl (R_move rfl rfl) ?_
              refine WL_val rfl rfl rfl (R_add rfl rfl rfl (by omega)) ?_
              refine WL_val rfl rfl rfl (R_assign rfl rfl) ?_
              refine WL_nil ?_
              refine WQ_nextF (gg := y) (⟨y.i + 1, relW y.W (a9.s, a9.p), r2, y.q⟩) (⟨by dsimp only; omega, g2, by rw [onN_rel_ne (a := (a9.s, a9.p)) hne9]; exact hyq, hyh.rel _, rfl, rfl⟩) (by dsimp only; omega) leZ (psZ) rfl (pqZ)
        · rcases bind3 hyr.srt a9.s a9.p a9.v with hbe | ⟨hbe, hfr, ⟨hp0, hbr, hkk⟩ | ⟨hp0, hbr, hkk⟩⟩
          · refine WC_skip ?_
            refine WQ_code ?_
            refine WC_seq ?_
            refine WC_region ?_
            refine WL_val rfl rfl rfl (R_move rfl rfl) ?_
            refine WL_val rfl rfl rfl (R_fieldAddr rfl fa23_0 rfl) ?_
            refine WL_val rfl rfl rfl (R_load rfl sc9 rfl (mmZ) rfl) ?_
            refine WL_do rfl rfl rfl (D_call (rfree_any hyr a9.s) rfl rfl rfl rfl (pqZ)) ?_
            rintro _ _ ⟨_, ⟨rfl, rfl⟩, rfl⟩
            refine WL_val rfl rfl rfl (R_move rfl rfl) ?_
            refine WL_val rfl rfl rfl (R_extract rfl rfl rfl) ?_
            refine WL_val rfl rfl rfl (R_extract rfl rfl rfl) ?_
            refine WL_val rfl rfl rfl (R_assign rfl rfl) ?_
            refine WL_val rfl rfl rfl (R_assign rfl rfl) ?_
            refine WL_nil ?_
            refine WQ_code ?_
            refine WC_seq ?_
            refine WC_drawB ([⟨some b1, _⟩, ⟨some lb, _⟩]) [(0, .q), (1, .q), (2, .q), (3, .q), (4, .q), (5, .q), (6, .q), (7, .n [11]), (8, .q), (9, .q), (10, .q), (11, .b []), (12, .n []), (13, .q)] followsMixed rfl rfl (by kernel_rfl) pqZ ?_
            refine WB_val rfl rfl rfl rfl (R_move rfl rfl) ?_
            refine WB_val rfl rfl rfl rfl (R_loadA (vs := [_, _]) rfl ag23 rfl (mmZ) rfl (atZ)) ?_
            refine WB_val rfl rfl rfl rfl (R_move rfl rfl) ?_
            refine WB_val rfl rfl rfl rfl (R_move rfl rfl) ?_
            refine WB_val rfl rfl rfl rfl (R_indexAddrN rfl Try.underlying37 Try.sizeOf41 rfl rfl (by omega)) ?_
            refine WB_val rfl rfl rfl rfl (R_fieldAddr rfl fa41_2 rfl) ?_
            refine WB_val rfl rfl rfl rfl (R_loadG (v := .int .i64 a9.v) rfl sc3 rfl mmZ (hat y.i a9 ha9 3 _ rfl)) ?_
            refine WB_do rfl rfl rfl rfl (.cons rfl rfl (B_alloc rfl zv23) .nil) (fun _ => D_call (rbind_ok hyr a9.s a9.p a9.v) rfl rfl rfl rfl (pqZ)) ?_
            rintro _ _ ⟨_, ⟨r2, rfl, rfl, p2, g2⟩, rfl⟩
            refine ⟨⟨_, pqZ⟩, ?_⟩
            rw [← p2]
            refine WB_val rfl rfl rfl rfl (R_move rfl rfl) ?_
            refine WB_val rfl rfl rfl rfl (R_extract rfl rfl rfl) ?_
            refine WB_val rfl rfl rfl rfl (R_extract rfl rfl rfl) ?_
            refine WB_birth rfl rfl rfl rfl .nil (B_alloc rfl zv23) (fun b2 => ?_)
            refine WB_do0 rfl rfl rfl .nil (fun _ => D_store (vs := [_, _]) rfl Try.sizeOf23 rfl rfl rfl rfl rfl (plZ) (by exact Nat.le_of_ble_eq_true rfl)) ?_
            rintro _ _ rfl
            refine ⟨⟨_, pqZ⟩, ?_⟩
            refine WB_val rfl rfl rfl rfl (R_assign rfl rfl) ?_
            refine WB_nil ?_
            refine WQ_code ?_
            refine WC_seq ?_
            refine WC_seq ?_
            refine WC_draw ([⟨some b1, _⟩, ⟨some b2, _⟩, ⟨some lb, _⟩]) [(0, true), (1, true), (2, true), (3, true), (4, true), (5, true), (6, true), (7, true), (8, true), (9, true), (10, true), (11, true), (12, true), (13, true), (14, false), (15, true), (16, true), (17, true), (18, true), (19, true), (20, true), (21, true), (22, true), (23, true), (24, true), (25, true), (26, true), (27, true), (28, true), (29, true), (30, true), (31, true), (32, true), (33, true), (34, true), (35, true), (36, false), (37, true), (38, true), (39, true)] followsMixed rfl rfl (by kernel_rfl) pqZ ?_
            refine WM_val rfl rfl rfl rfl (R_move rfl rfl) ?_
            refine WM_val rfl rfl rfl rfl (R_eql rfl rfl rfl) ?_
            refine WM_set (s := 134) (v := .bool false) rfl (by exact congrArg Value.bool (decide_eq_false hbe)) ?_
            refine WM_val rfl rfl rfl rfl (R_move rfl rfl) ?_
            refine WM_skip rfl rfl rfl rfl ?_
            refine WM_skip rfl rfl rfl rfl ?_
            refine WM_skip rfl rfl rfl rfl ?_
            refine WM_skip rfl rfl rfl rfl ?_
            refine WM_skip rfl rfl rfl rfl ?_
            refine WM_skip rfl rfl rfl rfl ?_
            refine WM_skip rfl rfl rfl rfl ?_
            refine WM_skip rfl rfl rfl rfl ?_
            refine WM_skip rfl rfl rfl rfl ?_
            refine WM_skip rfl rfl rfl rfl ?_
            refine WM_skip rfl rfl rfl rfl ?_
            refine WM_skipF rfl rfl rfl rfl (pqZ) ?_
            refine WM_skip rfl rfl rfl rfl ?_
            refine WM_skip rfl rfl rfl rfl ?_
            refine WM_skip rfl rfl rfl rfl ?_
            refine WM_skip rfl rfl rfl rfl ?_
            refine WM_skip rfl rfl rfl rfl ?_
            refine WM_skip rfl rfl rfl rfl ?_
            refine WM_skip rfl rfl rfl rfl ?_
            refine WM_skip rfl rfl rfl rfl ?_
            refine WM_skip rfl rfl rfl rfl ?_
            refine WM_skip rfl rfl rfl rfl ?_
            refine WM_skip rfl rfl rfl rfl ?_
            refine WM_skip rfl rfl rfl rfl ?_
            refine WM_skip rfl rfl rfl rfl ?_
            refine WM_skip rfl rfl rfl rfl ?_
            refine WM_skip rfl rfl rfl rfl ?_
            refine WM_skip rfl rfl rfl rfl ?_
            refine WM_skip rfl rfl rfl rfl ?_
            refine WM_skip rfl rfl rfl rfl ?_
            refine WM_skip rfl rfl rfl rfl ?_
            refine WM_skip rfl rfl rfl rfl ?_
            refine WM_skip rfl rfl rfl rfl ?_
            refine WM_skipF rfl rfl rfl rfl (pqZ) ?_
            refine WM_skip rfl rfl rfl rfl ?_
            refine WM_skip rfl rfl rfl rfl ?_
            refine WM_val rfl rfl rfl rfl (R_pickF rfl rfl rfl) ?_
            refine WM_nil ?_
            refine WQ_code ?_
            refine WC_F rfl ?_
            refine WC_skip ?_
            refine WQ_code ?_
            refine WC_seq ?_
            refine WC_draw ([⟨some b1, _⟩, ⟨some b2, _⟩, ⟨some lb, _⟩]) [(0, true), (1, true), (2, true), (3, true), (4, true), (5, true), (6, true), (7, true), (8, true), (9, true), (10, true), (11, true), (12, true), (13, true), (14, false), (15, true), (16, true)] followsMixed rfl rfl (by kernel_rfl) pqZ ?_
            refine WM_val rfl rfl rfl rfl (R_fieldAddr rfl fa23_0 rfl) ?_
            refine WM_val rfl rfl rfl rfl (R_load rfl sc9 rfl (mmZ) rfl) ?_
            refine WM_val rfl rfl rfl rfl (R_move rfl rfl) ?_
            refine WM_val rfl rfl rfl rfl (R_strEq rfl Try.underlying9 rfl rfl) ?_
            refine WM_val rfl rfl rfl rfl (R_move rfl rfl) ?_
            refine WM_splitD (s := 177) rfl (fun c7 => ?_) (fun c7 => ?_)
            · have hne9 : a9.s = name := byt_inj c7
              refine WM_val rfl rfl rfl rfl (R_move rfl rfl) ?_
              refine WM_val rfl rfl rfl rfl (R_loadA (vs := [_, _]) rfl ag23 rfl (mmZ) rfl (atZ)) ?_
              refine WM_val rfl rfl rfl rfl (R_move rfl rfl) ?_
              refine WM_val rfl rfl rfl rfl (R_move rfl rfl) ?_
              refine WM_val rfl rfl rfl rfl (R_indexAddrN rfl Try.underlying37 Try.sizeOf41 rfl rfl (by omega)) ?_
              refine WM_val rfl rfl rfl rfl (R_fieldAddr rfl fa41_2 rfl) ?_
              refine WM_val rfl rfl rfl rfl (R_loadG (v := .int .i64 a9.v) rfl sc3 rfl mmZ (hat y.i a9 ha9 3 _ rfl)) ?_
              refine WM_val rfl rfl rfl rfl (R_loadA (vs := [_, _]) rfl ag23 rfl (mmZ) rfl (atZ)) ?_
              refine WM_val rfl rfl rfl rfl (R_move rfl rfl) ?_
              refine WM_do rfl rfl rfl rfl (D_call (obinds_ok hyr.srt (by have := hyh.len; omega) hyq a9.s a9.p a9.v _ _ _ ⟨rfl, rfl⟩ hne9) rfl rfl rfl rfl (pqZ)) ?_
              rintro _ _ ⟨_, ⟨rfl, q2, rfl, u2, h2⟩, rfl⟩
              refine ⟨⟨_, pqZ⟩, ?_⟩
              rw [← u2]
              refine WM_val rfl rfl rfl rfl (R_not rfl rfl) ?_
              refine WM_val rfl rfl rfl rfl (R_pickT rfl rfl rfl) ?_
              refine WM_nil ?_
              refine WQ_code ?_
              refine WC_F rfl ?_
              refine WC_skip ?_
              refine WQ_code ?_
              refine WC_region ?_
              refine WL_val rfl rfl rfl (R_move rfl rfl) ?_
              refine WL_val rfl rfl rfl (R_add rfl rfl rfl (by omega)) ?_
              refine WL_val rfl rfl rfl (R_assign rfl rfl) ?_
              refine WL_nil ?_
              refine WQ_nextF (gg := y) (⟨y.i + 1, bndW y.W (a9.s, a9.p) a9.v, r2, q2⟩) (⟨by dsimp only; omega, g2, h2, hyh.bind _ _, rfl, rfl⟩) (by dsimp only; omega) leZ (psZ) rfl (pqZ)
            · have hne9 : ¬ a9.s = name := fun e => c7 (by rw [e])
              refine WM_skip rfl rfl rfl rfl ?_
              refine WM_skip rfl rfl rfl rfl ?_
              refine WM_skip rfl rfl rfl rfl ?_
              refine WM_skip rfl rfl rfl rfl ?_
              refine WM_skip rfl rfl rfl rfl ?_
              refine WM_skip rfl rfl rfl rfl ?_
              refine WM_skip rfl rfl rfl rfl ?_
              refine WM_skip rfl rfl rfl rfl ?_
              refine WM_skip rfl rfl rfl rfl ?_
              refine WM_skipF rfl rfl rfl rfl (pqZ) ?_
              refine WM_skip rfl rfl rfl rfl ?_
              refine WM_val rfl rfl rfl rfl (R_pickF rfl rfl rfl) ?_
              refine WM_nil ?_
              refine WQ_code ?_
              refine WC_F rfl ?_
              refine WC_skip ?_
              refine WQ_code ?_
              refine WC_region ?_
              refine WL_val rfl rfl rfl (R_move rfl rfl) ?_
              refine WL_val rfl rfl rfl (R_add rfl rfl rfl (by omega)) ?_
              refine WL_val rfl rfl rfl (R_assign rfl rfl) ?_
              refine WL_nil ?_
              refine WQ_nextF (gg := y) (⟨y.i + 1, bndW y.W (a9.s, a9.p) a9.v, r2, y.q⟩) (⟨by dsimp only; omega, g2, by rw [onN_bndW_ne (a := (a9.s, a9.p)) hyr.srt hne9]; exact hyq, hyh.bind _ _, rfl, rfl⟩) (by dsimp only; omega) leZ (psZ) rfl (pqZ)
          · refine WC_skip ?_
            refine WQ_code ?_
            refine WC_seq ?_
            refine WC_region ?_
            refine WL_val rfl rfl rfl (R_move rfl rfl) ?_
            refine WL_val rfl rfl rfl (R_fieldAddr rfl fa23_0 rfl) ?_
            refine WL_val rfl rfl rfl (R_load rfl sc9 rfl (mmZ) rfl) ?_
            refine WL_do rfl rfl rfl (D_call (rfree_any hyr a9.s) rfl rfl rfl rfl (pqZ)) ?_
            rintro _ _ ⟨_, ⟨rfl, rfl⟩, rfl⟩
            rw [hfr]
            refine WL_val rfl rfl rfl (R_move rfl rfl) ?_
            refine WL_val rfl rfl rfl (R_extract rfl rfl rfl) ?_
            refine WL_val rfl rfl rfl (R_extract rfl rfl rfl) ?_
            refine WL_val rfl rfl rfl (R_assign rfl rfl) ?_
            refine WL_val rfl rfl rfl (R_assign rfl rfl) ?_
            refine WL_nil ?_
            refine WQ_code ?_
            refine WC_seq ?_
            refine WC_drawB ([⟨some b1, _⟩, ⟨some lb, _⟩]) [(0, .q), (1, .q), (2, .q), (3, .q), (4, .q), (5, .q), (6, .q), (7, .n [11]), (8, .q), (9, .q), (10, .q), (11, .b []), (12, .n []), (13, .q)] followsMixed rfl rfl (by kernel_rfl) pqZ ?_
            refine WB_val rfl rfl rfl rfl (R_move rfl rfl) ?_
            refine WB_val rfl rfl rfl rfl (R_loadA (vs := [_, _]) rfl ag23 rfl (mmZ) rfl (atZ)) ?_
            refine WB_val rfl rfl rfl rfl (R_move rfl rfl) ?_
            refine WB_val rfl rfl rfl rfl (R_move rfl rfl) ?_
            refine WB_val rfl rfl rfl rfl (R_indexAddrN rfl Try.underlying37 Try.sizeOf41 rfl rfl (by omega)) ?_
            refine WB_val rfl rfl rfl rfl (R_fieldAddr rfl fa41_2 rfl) ?_
            refine WB_val rfl rfl rfl rfl (R_loadG (v := .int .i64 a9.v) rfl sc3 rfl mmZ (hat y.i a9 ha9 3 _ rfl)) ?_
            refine WB_do rfl rfl rfl rfl (.cons rfl rfl (B_alloc rfl zv23) .nil) (fun _ => D_call (rbind_ok hyr a9.s a9.p a9.v) rfl rfl rfl rfl (pqZ)) ?_
            rintro _ _ ⟨_, ⟨r2, rfl, rfl, p2, g2⟩, rfl⟩
            refine ⟨⟨_, pqZ⟩, ?_⟩
            rw [hbr, hbe, ← p2]
            refine WB_val rfl rfl rfl rfl (R_move rfl rfl) ?_
            refine WB_val rfl rfl rfl rfl (R_extract rfl rfl rfl) ?_
            refine WB_val rfl rfl rfl rfl (R_extract rfl rfl rfl) ?_
            refine WB_birth rfl rfl rfl rfl .nil (B_alloc rfl zv23) (fun b3 => ?_)
            refine WB_do0 rfl rfl rfl .nil (fun _ => D_store (vs := [_, _]) rfl Try.sizeOf23 rfl rfl rfl rfl rfl (plZ) (by exact Nat.le_of_ble_eq_true rfl)) ?_
            rintro _ _ rfl
            refine ⟨⟨_, pqZ⟩, ?_⟩
            refine WB_val rfl rfl rfl rfl (R_assign rfl rfl) ?_
            refine WB_nil ?_
            refine WQ_code ?_
            refine WC_seq ?_
            refine WC_seq ?_
            refine WC_draw ([⟨some b1, _⟩, ⟨some b3, _⟩, ⟨some lb, _⟩]) [(0, true), (1, true), (2, true), (3, true), (4, true), (5, true), (6, true), (7, true), (8, true), (9, true), (10, true), (11, true), (12, true), (13, true), (14, false), (15, true), (16, true), (17, true), (18, true), (19, true), (20, true), (21, true), (22, true), (23, true), (24, true), (25, true), (26, true), (27, true), (28, true), (29, true), (30, true), (31, true), (32, true), (33, true), (34, true), (35, true), (36, false), (37, true), (38, true), (39, true)] followsMixed rfl rfl (by kernel_rfl) pqZ ?_
            refine WM_val rfl rfl rfl rfl (R_move rfl rfl) ?_
            refine WM_val rfl rfl rfl rfl (R_eql rfl rfl rfl) ?_
            refine WM_set (s := 134) (v := .bool true) rfl (by simp) ?_
            refine WM_val rfl rfl rfl rfl (R_move rfl rfl) ?_
            refine WM_val rfl rfl rfl rfl (R_move rfl rfl) ?_
            refine WM_val rfl rfl rfl rfl (R_neq rfl rfl rfl) ?_
            refine WM_set (s := 137) (v := .bool false) rfl (by simp) ?_
            refine WM_val rfl rfl rfl rfl (R_move rfl rfl) ?_
            refine WM_val rfl rfl rfl rfl (R_fieldAddr rfl fa23_1 rfl) ?_
            refine WM_val rfl rfl rfl rfl (R_load rfl sc3 rfl (mmZ) rfl) ?_
            refine WM_val rfl rfl rfl rfl (R_eql rfl rfl rfl) ?_
            refine WM_set (s := 141) (v := .bool true) rfl (by exact congrArg Value.bool (decide_eq_true hp0)) ?_
            refine WM_val rfl rfl rfl rfl (R_move rfl rfl) ?_
            refine WM_val rfl rfl rfl rfl (R_loadA (vs := [_, _]) rfl ag23 rfl (mmZ) rfl (atZ)) ?_
            refine WM_val rfl rfl rfl rfl (R_fieldAddr rfl fa23_0 rfl) ?_
            refine WM_val rfl rfl rfl rfl (R_load rfl sc9 rfl (mmZ) rfl) ?_
            refine WM_val rfl rfl rfl rfl (R_move rfl rfl) ?_
            refine WM_do rfl rfl rfl rfl (D_call (to_ok _ _) rfl rfl rfl rfl (pqZ)) ?_
            rintro _ _ ⟨_, ⟨rfl, rfl⟩, rfl⟩
            refine ⟨⟨_, pqZ⟩, ?_⟩
            refine WM_val rfl rfl rfl rfl (R_sne23 rfl rfl rfl rfl) ?_
            refine WM_set (s := 148) (v := .bool false) rfl (by simp) ?_
            refine WM_val rfl rfl rfl rfl (R_pickT rfl rfl rfl) ?_
            refine WM_val rfl rfl rfl rfl (R_pickF rfl rfl rfl) ?_
            refine WM_val rfl rfl rfl rfl (R_move rfl rfl) ?_
            refine WM_val rfl rfl rfl rfl (R_fieldAddr rfl fa23_1 rfl) ?_
            refine WM_val rfl rfl rfl rfl (R_load rfl sc3 rfl (mmZ) rfl) ?_
            refine WM_val rfl rfl rfl rfl (R_neq rfl rfl rfl) ?_
            refine WM_set (s := 154) (v := .bool false) rfl (by exact congrArg Value.bool (decide_eq_false (fun h => h hp0))) ?_
            refine WM_val rfl rfl rfl rfl (R_move rfl rfl) ?_
            refine WM_skip rfl rfl rfl rfl ?_
            refine WM_skip rfl rfl rfl rfl ?_
            refine WM_skip rfl rfl rfl rfl ?_
            refine WM_val rfl rfl rfl rfl (R_pickF rfl rfl rfl) ?_
            refine WM_val rfl rfl rfl rfl (R_pickF rfl rfl rfl) ?_
            refine WM_val rfl rfl rfl rfl (R_move rfl rfl) ?_
            refine WM_val rfl rfl rfl rfl (R_move rfl rfl) ?_
            refine WM_val rfl rfl rfl rfl (R_loadA (vs := [_, _]) rfl ag23 rfl (mmZ) rfl (atZ)) ?_
            refine WM_val rfl rfl rfl rfl (R_move rfl rfl) ?_
            refine WM_val rfl rfl rfl rfl (R_move rfl rfl) ?_
            refine WM_val rfl rfl rfl rfl (R_indexAddrN rfl Try.underlying37 Try.sizeOf41 rfl rfl (by omega)) ?_
            refine WM_val rfl rfl rfl rfl (R_fieldAddr rfl fa41_2 rfl) ?_
            refine WM_val rfl rfl rfl rfl (R_loadG (v := .int .i64 a9.v) rfl sc3 rfl mmZ (hat y.i a9 ha9 3 _ rfl)) ?_
            refine WM_do rfl rfl rfl rfl (D_call (finds_run g2 a9.s ((49152 + frN y.W a9.s : Nat) : Int) a9.v 0 hkk) rfl rfl rfl rfl (pqZ)) ?_
            rintro _ _ ⟨_, ⟨rfl, rfl⟩, rfl⟩
            refine ⟨⟨_, pqZ⟩, ?_⟩
            refine WM_val rfl rfl rfl rfl (R_not rfl rfl) ?_
            refine WM_val rfl rfl rfl rfl (R_pickF rfl rfl rfl) ?_
            refine WM_val rfl rfl rfl rfl (R_pickT rfl rfl rfl) ?_
            refine WM_nil ?_
            refine WQ_code ?_
            refine WC_F rfl ?_
            refine WC_skip ?_
            refine WQ_code ?_
            refine WC_seq ?_
            refine WC_draw ([⟨some b1, _⟩, ⟨some b3, _⟩, ⟨some lb, _⟩]) [(0, true), (1, true), (2, true), (3, true), (4, true), (5, true), (6, true), (7, true), (8, true), (9, true), (10, true), (11, true), (12, true), (13, true), (14, false), (15, true), (16, true)] followsMixed rfl rfl (by kernel_rfl) pqZ ?_
            refine WM_val rfl rfl rfl rfl (R_fieldAddr rfl fa23_0 rfl) ?_
            refine WM_val rfl rfl rfl rfl (R_load rfl sc9 rfl (mmZ) rfl) ?_
            refine WM_val rfl rfl rfl rfl (R_move rfl rfl) ?_
            refine WM_val rfl rfl rfl rfl (R_strEq rfl Try.underlying9 rfl rfl) ?_
            refine WM_val rfl rfl rfl rfl (R_move rfl rfl) ?_
            refine WM_splitD (s := 177) rfl (fun c8 => ?_) (fun c8 => ?_)
            · have hne9 : a9.s = name := byt_inj c8
              refine WM_val rfl rfl rfl rfl (R_move rfl rfl) ?_
              refine WM_val rfl rfl rfl rfl (R_loadA (vs := [_, _]) rfl ag23 rfl (mmZ) rfl (atZ)) ?_
              refine WM_val rfl rfl rfl rfl (R_move rfl rfl) ?_
              refine WM_val rfl rfl rfl rfl (R_move rfl rfl) ?_
              refine WM_val rfl rfl rfl rfl (R_indexAddrN rfl Try.underlying37 Try.sizeOf41 rfl rfl (by omega)) ?_
              refine WM_val rfl rfl rfl rfl (R_fieldAddr rfl fa41_2 rfl) ?_
              refine WM_val rfl rfl rfl rfl (R_loadG (v := .int .i64 a9.v) rfl sc3 rfl mmZ (hat y.i a9 ha9 3 _ rfl)) ?_
              refine WM_val rfl rfl rfl rfl (R_loadA (vs := [_, _]) rfl ag23 rfl (mmZ) rfl (atZ)) ?_
              refine WM_val rfl rfl rfl rfl (R_move rfl rfl) ?_
              refine WM_do rfl rfl rfl rfl (D_call (obinds_ok hyr.srt (by have := hyh.len; omega) hyq a9.s a9.p a9.v _ _ _ ⟨hbr, hbe⟩ hne9) rfl rfl rfl rfl (pqZ)) ?_
              rintro _ _ ⟨_, ⟨rfl, q2, rfl, u2, h2⟩, rfl⟩
              refine ⟨⟨_, pqZ⟩, ?_⟩
              rw [← u2]
              refine WM_val rfl rfl rfl rfl (R_not rfl rfl) ?_
              refine WM_val rfl rfl rfl rfl (R_pickT rfl rfl rfl) ?_
              refine WM_nil ?_
              refine WQ_code ?_
              refine WC_F rfl ?_
              refine WC_skip ?_
              refine WQ_code ?_
              refine WC_region ?_
              refine WL_val rfl rfl rfl (R_move rfl rfl) ?_
              refine WL_val rfl rfl rfl (R_add rfl rfl rfl (by omega)) ?_
              refine WL_val rfl rfl rfl (R_assign rfl rfl) ?_
              refine WL_nil ?_
              refine WQ_nextF (gg := y) (⟨y.i + 1, bndW y.W (a9.s, a9.p) a9.v, r2, q2⟩) (⟨by dsimp only; omega, g2, h2, hyh.bind _ _, rfl, rfl⟩) (by dsimp only; omega) leZ (psZ) rfl (pqZ)
            · have hne9 : ¬ a9.s = name := fun e => c8 (by rw [e])
              refine WM_skip rfl rfl rfl rfl ?_
              refine WM_skip rfl rfl rfl rfl ?_
              refine WM_skip rfl rfl rfl rfl ?_
              refine WM_skip rfl rfl rfl rfl ?_
              refine WM_skip rfl rfl rfl rfl ?_
              refine WM_skip rfl rfl rfl rfl ?_
              refine WM_skip rfl rfl rfl rfl ?_
              refine WM_skip rfl rfl rfl rfl ?_
              refine WM_skip rfl rfl rfl rfl ?_
              refine WM_skipF rfl rfl rfl rfl (pqZ) ?_
              refine WM_skip rfl rfl rfl rfl ?_
              refine WM_val rfl rfl rfl rfl (R_pickF rfl rfl rfl) ?_
              refine WM_nil ?_
              refine WQ_code ?_
              refine WC_F rfl ?_
              refine WC_skip ?_
              refine WQ_code ?_
              refine WC_region ?_
              refine WL_val rfl rfl rfl (R_move rfl rfl) ?_
              refine WL_val rfl rfl rfl (R_add rfl rfl rfl (by omega)) ?_
              refine WL_val rfl rfl rfl (R_assign rfl rfl) ?_
              refine WL_nil ?_
              refine WQ_nextF (gg := y) (⟨y.i + 1, bndW y.W (a9.s, a9.p) a9.v, r2, y.q⟩) (⟨by dsimp only; omega, g2, by rw [onN_bndW_ne (a := (a9.s, a9.p)) hyr.srt hne9]; exact hyq, hyh.bind _ _, rfl, rfl⟩) (by dsimp only; omega) leZ (psZ) rfl (pqZ)
          · refine WC_skip ?_
            refine WQ_code ?_
            refine WC_seq ?_
            refine WC_region ?_
            refine WL_val rfl rfl rfl (R_move rfl rfl) ?_
            refine WL_val rfl rfl rfl (R_fieldAddr rfl fa23_0 rfl) ?_
            refine WL_val rfl rfl rfl (R_load rfl sc9 rfl (mmZ) rfl) ?_
            refine WL_do rfl rfl rfl (D_call (rfree_any hyr a9.s) rfl rfl rfl rfl (pqZ)) ?_
            rintro _ _ ⟨_, ⟨rfl, rfl⟩, rfl⟩
            rw [hfr]
            refine WL_val rfl rfl rfl (R_move rfl rfl) ?_
            refine WL_val rfl rfl rfl (R_extract rfl rfl rfl) ?_
            refine WL_val rfl rfl rfl (R_extract rfl rfl rfl) ?_
            refine WL_val rfl rfl rfl (R_assign rfl rfl) ?_
            refine WL_val rfl rfl rfl (R_assign rfl rfl) ?_
            refine WL_nil ?_
            refine WQ_code ?_
            refine WC_seq ?_
            refine WC_drawB ([⟨some b1, _⟩, ⟨some lb, _⟩]) [(0, .q), (1, .q), (2, .q), (3, .q), (4, .q), (5, .q), (6, .q), (7, .n [11]), (8, .q), (9, .q), (10, .q), (11, .b []), (12, .n []), (13, .q)] followsMixed rfl rfl (by kernel_rfl) pqZ ?_
            refine WB_val rfl rfl rfl rfl (R_move rfl rfl) ?_
            refine WB_val rfl rfl rfl rfl (R_loadA (vs := [_, _]) rfl ag23 rfl (mmZ) rfl (atZ)) ?_
            refine WB_val rfl rfl rfl rfl (R_move rfl rfl) ?_
            refine WB_val rfl rfl rfl rfl (R_move rfl rfl) ?_
            refine WB_val rfl rfl rfl rfl (R_indexAddrN rfl Try.underlying37 Try.sizeOf41 rfl rfl (by omega)) ?_
            refine WB_val rfl rfl rfl rfl (R_fieldAddr rfl fa41_2 rfl) ?_
            refine WB_val rfl rfl rfl rfl (R_loadG (v := .int .i64 a9.v) rfl sc3 rfl mmZ (hat y.i a9 ha9 3 _ rfl)) ?_
            refine WB_do rfl rfl rfl rfl (.cons rfl rfl (B_alloc rfl zv23) .nil) (fun _ => D_call (rbind_ok hyr a9.s a9.p a9.v) rfl rfl rfl rfl (pqZ)) ?_
            rintro _ _ ⟨_, ⟨r2, rfl, rfl, p2, g2⟩, rfl⟩
            refine ⟨⟨_, pqZ⟩, ?_⟩
            rw [hbr, hbe, ← p2]
            refine WB_val rfl rfl rfl rfl (R_move rfl rfl) ?_
            refine WB_val rfl rfl rfl rfl (R_extract rfl rfl rfl) ?_
            refine WB_val rfl rfl rfl rfl (R_extract rfl rfl rfl) ?_
            refine WB_birth rfl rfl rfl rfl .nil (B_alloc rfl zv23) (fun b4 => ?_)
            refine WB_do0 rfl rfl rfl .nil (fun _ => D_store (vs := [_, _]) rfl Try.sizeOf23 rfl rfl rfl rfl rfl (plZ) (by exact Nat.le_of_ble_eq_true rfl)) ?_
            rintro _ _ rfl
            refine ⟨⟨_, pqZ⟩, ?_⟩
            refine WB_val rfl rfl rfl rfl (R_assign rfl rfl) ?_
            refine WB_nil ?_
            refine WQ_code ?_
            refine WC_seq ?_
            refine WC_seq ?_
            refine WC_draw ([⟨some b1, _⟩, ⟨some b4, _⟩, ⟨some lb, _⟩]) [(0, true), (1, true), (2, true), (3, true), (4, true), (5, true), (6, true), (7, true), (8, true), (9, true), (10, true), (11, true), (12, true), (13, true), (14, false), (15, true), (16, true), (17, true), (18, true), (19, true), (20, true), (21, true), (22, true), (23, true), (24, true), (25, true), (26, true), (27, true), (28, true), (29, true), (30, true), (31, true), (32, true), (33, true), (34, true), (35, true), (36, false), (37, true), (38, true), (39, true)] followsMixed rfl rfl (by kernel_rfl) pqZ ?_
            refine WM_val rfl rfl rfl rfl (R_move rfl rfl) ?_
            refine WM_val rfl rfl rfl rfl (R_eql rfl rfl rfl) ?_
            refine WM_set (s := 134) (v := .bool true) rfl (by simp) ?_
            refine WM_val rfl rfl rfl rfl (R_move rfl rfl) ?_
            refine WM_val rfl rfl rfl rfl (R_move rfl rfl) ?_
            refine WM_val rfl rfl rfl rfl (R_neq rfl rfl rfl) ?_
            refine WM_set (s := 137) (v := .bool false) rfl (by simp) ?_
            refine WM_val rfl rfl rfl rfl (R_move rfl rfl) ?_
            refine WM_val rfl rfl rfl rfl (R_fieldAddr rfl fa23_1 rfl) ?_
            refine WM_val rfl rfl rfl rfl (R_load rfl sc3 rfl (mmZ) rfl) ?_
            refine WM_val rfl rfl rfl rfl (R_eql rfl rfl rfl) ?_
            refine WM_set (s := 141) (v := .bool false) rfl (by exact congrArg Value.bool (decide_eq_false hp0)) ?_
            refine WM_val rfl rfl rfl rfl (R_move rfl rfl) ?_
            refine WM_skip rfl rfl rfl rfl ?_
            refine WM_skip rfl rfl rfl rfl ?_
            refine WM_skip rfl rfl rfl rfl ?_
            refine WM_skip rfl rfl rfl rfl ?_
            refine WM_skipF rfl rfl rfl rfl (pqZ) ?_
            refine WM_skip rfl rfl rfl rfl ?_
            refine WM_val rfl rfl rfl rfl (R_pickF rfl rfl rfl) ?_
            refine WM_val rfl rfl rfl rfl (R_pickF rfl rfl rfl) ?_
            refine WM_val rfl rfl rfl rfl (R_move rfl rfl) ?_
            refine WM_val rfl rfl rfl rfl (R_fieldAddr rfl fa23_1 rfl) ?_
            refine WM_val rfl rfl rfl rfl (R_load rfl sc3 rfl (mmZ) rfl) ?_
            refine WM_val rfl rfl rfl rfl (R_neq rfl rfl rfl) ?_
            refine WM_set (s := 154) (v := .bool true) rfl (by exact congrArg Value.bool (decide_eq_true hp0)) ?_
            refine WM_val rfl rfl rfl rfl (R_move rfl rfl) ?_
            refine WM_val rfl rfl rfl rfl (R_loadA (vs := [_, _]) rfl ag23 rfl (mmZ) rfl (atZ)) ?_
            refine WM_val rfl rfl rfl rfl (R_loadA (vs := [_, _]) rfl ag23 rfl (mmZ) rfl (atZ)) ?_
            refine WM_val rfl rfl rfl rfl (R_sne23 rfl rfl rfl rfl) ?_
            refine WM_set (s := 158) (v := .bool false) rfl (by simp) ?_
            refine WM_val rfl rfl rfl rfl (R_pickT rfl rfl rfl) ?_
            refine WM_val rfl rfl rfl rfl (R_pickF rfl rfl rfl) ?_
            refine WM_val rfl rfl rfl rfl (R_move rfl rfl) ?_
            refine WM_val rfl rfl rfl rfl (R_move rfl rfl) ?_
            refine WM_val rfl rfl rfl rfl (R_loadA (vs := [_, _]) rfl ag23 rfl (mmZ) rfl (atZ)) ?_
            refine WM_val rfl rfl rfl rfl (R_move rfl rfl) ?_
            refine WM_val rfl rfl rfl rfl (R_move rfl rfl) ?_
            refine WM_val rfl rfl rfl rfl (R_indexAddrN rfl Try.underlying37 Try.sizeOf41 rfl rfl (by omega)) ?_
            refine WM_val rfl rfl rfl rfl (R_fieldAddr rfl fa41_2 rfl) ?_
            refine WM_val rfl rfl rfl rfl (R_loadG (v := .int .i64 a9.v) rfl sc3 rfl mmZ (hat y.i a9 ha9 3 _ rfl)) ?_
            refine WM_do rfl rfl rfl rfl (D_call (finds_run g2 a9.s a9.p a9.v 0 hkk) rfl rfl rfl rfl (pqZ)) ?_
            rintro _ _ ⟨_, ⟨rfl, rfl⟩, rfl⟩
            refine ⟨⟨_, pqZ⟩, ?_⟩
            refine WM_val rfl rfl rfl rfl (R_not rfl rfl) ?_
            refine WM_val rfl rfl rfl rfl (R_pickF rfl rfl rfl) ?_
            refine WM_val rfl rfl rfl rfl (R_pickT rfl rfl rfl) ?_
            refine WM_nil ?_
            refine WQ_code ?_
            refine WC_F rfl ?_
            refine WC_skip ?_
            refine WQ_code ?_
            refine WC_seq ?_
            refine WC_draw ([⟨some b1, _⟩, ⟨some b4, _⟩, ⟨some lb, _⟩]) [(0, true), (1, true), (2, true), (3, true), (4, true), (5, true), (6, true), (7, true), (8, true), (9, true), (10, true), (11, true), (12, true), (13, true), (14, false), (15, true), (16, true)] followsMixed rfl rfl (by kernel_rfl) pqZ ?_
            refine WM_val rfl rfl rfl rfl (R_fieldAddr rfl fa23_0 rfl) ?_
            refine WM_val rfl rfl rfl rfl (R_load rfl sc9 rfl (mmZ) rfl) ?_
            refine WM_val rfl rfl rfl rfl (R_move rfl rfl) ?_
            refine WM_val rfl rfl rfl rfl (R_strEq rfl Try.underlying9 rfl rfl) ?_
            refine WM_val rfl rfl rfl rfl (R_move rfl rfl) ?_
            refine WM_splitD (s := 177) rfl (fun c9 => ?_) (fun c9 => ?_)
            · have hne9 : a9.s = name := byt_inj c9
              refine WM_val rfl rfl rfl rfl (R_move rfl rfl) ?_
              refine WM_val rfl rfl rfl rfl (R_loadA (vs := [_, _]) rfl ag23 rfl (mmZ) rfl (atZ)) ?_
              refine WM_val rfl rfl rfl rfl (R_move rfl rfl) ?_
              refine WM_val rfl rfl rfl rfl (R_move rfl rfl) ?_
              refine WM_val rfl rfl rfl rfl (R_indexAddrN rfl Try.underlying37 Try.sizeOf41 rfl rfl (by omega)) ?_
              refine WM_val rfl rfl rfl rfl (R_fieldAddr rfl fa41_2 rfl) ?_
              refine WM_val rfl rfl rfl rfl (R_loadG (v := .int .i64 a9.v) rfl sc3 rfl mmZ (hat y.i a9 ha9 3 _ rfl)) ?_
              refine WM_val rfl rfl rfl rfl (R_loadA (vs := [_, _]) rfl ag23 rfl (mmZ) rfl (atZ)) ?_
              refine WM_val rfl rfl rfl rfl (R_move rfl rfl) ?_
              refine WM_do rfl rfl rfl rfl (D_call (obinds_ok hyr.srt (by have := hyh.len; omega) hyq a9.s a9.p a9.v _ _ _ ⟨hbr, hbe⟩ hne9) rfl rfl rfl rfl (pqZ)) ?_
              rintro _ _ ⟨_, ⟨rfl, q2, rfl, u2, h2⟩, rfl⟩
              refine ⟨⟨_, pqZ⟩, ?_⟩
              rw [← u2]
              refine WM_val rfl rfl rfl rfl (R_not rfl rfl) ?_
              refine WM_val rfl rfl rfl rfl (R_pickT rfl rfl rfl) ?_
              refine WM_nil ?_
              refine WQ_code ?_
              refine WC_F rfl ?_
              refine WC_skip ?_
              refine WQ_code ?_
              refine WC_region ?_
              refine WL_val rfl rfl rfl (R_move rfl rfl) ?_
              refine WL_val rfl rfl rfl (R_add rfl rfl rfl (by omega)) ?_
              refine WL_val rfl rfl rfl (R_assign rfl rfl) ?_
              refine WL_nil ?_
              refine WQ_nextF (gg := y) (⟨y.i + 1, bndW y.W (a9.s, a9.p) a9.v, r2, q2⟩) (⟨by dsimp only; omega, g2, h2, hyh.bind _ _, rfl, rfl⟩) (by dsimp only; omega) leZ (psZ) rfl (pqZ)
            · have hne9 : ¬ a9.s = name := fun e => c9 (by rw [e])
              refine WM_skip rfl rfl rfl rfl ?_
              refine WM_skip rfl rfl rfl rfl ?_
              refine WM_skip rfl rfl rfl rfl ?_
              refine WM_skip rfl rfl rfl rfl ?_
              refine WM_skip rfl rfl rfl rfl ?_
              refine WM_skip rfl rfl rfl rfl ?_
              refine WM_skip rfl rfl rfl rfl ?_
              refine WM_skip rfl rfl rfl rfl ?_
              refine WM_skip rfl rfl rfl rfl ?_
              refine WM_skipF rfl rfl rfl rfl (pqZ) ?_
              refine WM_skip rfl rfl rfl rfl ?_
              refine WM_val rfl rfl rfl rfl (R_pickF rfl rfl rfl) ?_
              refine WM_nil ?_
              refine WQ_code ?_
              refine WC_F rfl ?_
              refine WC_skip ?_
              refine WQ_code ?_
              refine WC_region ?_
              refine WL_val rfl rfl rfl (R_move rfl rfl) ?_
              refine WL_val rfl rfl rfl (R_add rfl rfl rfl (by omega)) ?_
              refine WL_val rfl rfl rfl (R_assign rfl rfl) ?_
              refine WL_nil ?_
              refine WQ_nextF (gg := y) (⟨y.i + 1, bndW y.W (a9.s, a9.p) a9.v, r2, y.q⟩) (⟨by dsimp only; omega, g2, by rw [onN_bndW_ne (a := (a9.s, a9.p)) hyr.srt hne9]; exact hyq, hyh.bind _ _, rfl, rfl⟩) (by dsimp only; omega) leZ (psZ) rfl (pqZ)
      · refine WC_exit ?_
        refine WQ_code ?_
        refine WC_seq ?_
        refine WC_region ?_
        refine WL_val rfl rfl rfl (R_move rfl rfl) ?_
        refine WL_val rfl rfl rfl (R_move rfl rfl) ?_
        refine WL_do rfl rfl rfl (D_call (free_run hyr name hvn _ rfl) rfl rfl rfl rfl (pqZ)) ?_
        rintro _ _ ⟨_, ⟨rfl, rfl⟩, rfl⟩
        refine WL_val rfl rfl rfl (R_move rfl rfl) ?_
        refine WL_val rfl rfl rfl (R_extract rfl rfl rfl) ?_
        refine WL_val rfl rfl rfl (R_extract rfl rfl rfl) ?_
        refine WL_val rfl rfl rfl (R_assign rfl rfl) ?_
        refine WL_val rfl rfl rfl (R_assign rfl rfl) ?_
        refine WL_nil ?_
        refine WQ_code ?_
        refine WC_seq ?_
        refine WC_region ?_
        refine WL_val rfl rfl rfl (R_move rfl rfl) ?_
        refine WL_val rfl rfl rfl (R_move rfl rfl) ?_
        refine WL_do rfl rfl rfl (D_call (free_run hyq name hvn ((49152 + frN y.W name : Nat) : Int) (by rw [onN_fr])) rfl rfl rfl rfl (pqZ)) ?_
        rintro _ _ ⟨_, ⟨rfl, rfl⟩, rfl⟩
        refine WL_val rfl rfl rfl (R_move rfl rfl) ?_
        refine WL_val rfl rfl rfl (R_extract rfl rfl rfl) ?_
        refine WL_val rfl rfl rfl (R_extract rfl rfl rfl) ?_
        refine WL_val rfl rfl rfl (R_assign rfl rfl) ?_
        refine WL_val rfl rfl rfl (R_assign rfl rfl) ?_
        refine WL_nil ?_
        refine WQ_code ?_
        refine WC_seq ?_
        refine WC_region ?_
        refine WL_val rfl rfl rfl (R_move rfl rfl) ?_
        refine WL_val rfl rfl rfl (R_move rfl rfl) ?_
        refine WL_val rfl rfl rfl (R_eql rfl rfl rfl) ?_
        refine WL_set (s := 204) (v := .bool true) rfl (by simp) ?_
        refine WL_val rfl rfl rfl (R_move rfl rfl) ?_
        refine WL_val rfl rfl rfl (R_move rfl rfl) ?_
        refine WL_val rfl rfl rfl (R_eql rfl rfl rfl) ?_
        refine WL_set (s := 207) (v := .bool true) rfl (by simp) ?_
        refine WL_val rfl rfl rfl (R_pickT rfl rfl rfl) ?_
        refine WL_val rfl rfl rfl (R_move rfl rfl) ?_
        refine WL_val rfl rfl rfl (R_move rfl rfl) ?_
        refine WL_val rfl rfl rfl (R_eql rfl rfl rfl) ?_
        refine WL_set (s := 211) (v := .bool true) rfl (by simp) ?_
        refine WL_val rfl rfl rfl (R_pickT rfl rfl rfl) ?_
        refine WL_val rfl rfl rfl (R_move rfl rfl) ?_
        refine WL_do rfl rfl rfl (D_call (known_ok hs) rfl rfl rfl rfl (pqZ)) ?_
        rintro _ _ ⟨_, ⟨rfl, rfl⟩, rfl⟩
        refine WL_val rfl rfl rfl (R_pickT rfl rfl rfl) ?_
        refine WL_val rfl rfl rfl (R_assign rfl rfl) ?_
        refine WL_nil ?_
        refine WQ_code ?_
        refine WC_ret ?_
        refine WQ_ret rfl rfl (.cons (.tmp rfl) .nil) rfl (by
            exact ⟨rfl, rfl⟩) (pqZ)

end Go.Proofs.Ytiomimjjdbijmaa
