/-
  Chapter 17 (registry), part Iter: contracts of functions that the laws call, each for the heap it names.
-/
import Derived.Test.YtiomimjjdbijmaaRows
import Derived.Test.YtiomimjjdbijmaaZB
import Derived.Test.YtiomimjjdbijmaaSLMapJ
import Derived.Test.YtiomimjjdbijmaaSLScope
import Derived.Test.YtiomimjjdbijmaaTab
import Derived.Test.YtiomimjjdbijmaaPlays
import Derived.Test.YtiomimjjdbijmaaReg10
set_option linter.unusedVariables false
set_option maxRecDepth 20000
set_option maxHeartbeats 8000000
namespace Go.Proofs.Ytiomimjjdbijmaa


structure ItR where
  n : Nat
  W : List Bd
  r : Rg
theorem at_sub {cs vs : List Value} {k : Nat} (h : At cs k vs) (a n : Nat) {ws : List Value} (hw : (vs.drop a).take n = ws) : At cs (k + a) ws := fun j v hj => by
  subst hw
  have hlt : j < n := by have := (List.getElem?_eq_some_iff.1 hj).1; rw [List.length_take] at this; omega
  rw [List.getElem?_take_of_lt hlt, List.getElem?_drop] at hj
  rw [← h (a + j) v hj]; congr 1; omega
theorem iter_two (hs : SortOk) (T : List RA) (oa : Option Addr) (c : Nat) (ent : Ent) (ha : Arg oa ent 4 encRA T) (hb : T.length ≤ 9223372036854775807) (T2 : List RA) (oa2 : Option Addr) (cap2 : Nat) (en2 : Ent) (ha2 : Arg oa2 en2 4 encRA T2) (hb2 : T2.length ≤ 9223372036854775807) : Spec Try.prog 6 [.slice oa T.length c, .slice oa2 T2.length cap2] [ent, en2] (fun x H' => x = .bool true ∧ H' = [ent, en2]) := by
  refine Spec.ofM (E := [(0, .slice oa T.length c), (1, .slice oa2 T2.length cap2)]) Try.func6 rfl (by kernel_rfl) Try.ntmps6 rfl rfl (fun w => ?_)
  refine WC_seq ?_
  refine WC_region ?_
  refine WL_do rfl rfl rfl (D_box (cs := [_]) rfl rfl rfl) ?_
  rintro _ _ ⟨b1, rfl, rfl⟩
  refine WL_do rfl rfl rfl (D_alloc rfl zv4) ?_
  rintro _ _ ⟨b2, rfl, rfl⟩
  refine WL_nil ?_
  refine WQ_code ?_
  refine WC_seq ?_
  refine WC_seq ?_
  refine WC_region ?_
  refine WL_val rfl rfl rfl (R_move rfl rfl) ?_
  refine WL_do rfl rfl rfl (D_call (few_ok T oa c ent ha hb 20) rfl rfl rfl rfl (pqZ)) ?_
  rintro _ _ ⟨_, ⟨bf, rfl, hbf, rfl⟩, rfl⟩
  refine WL_val rfl rfl rfl (R_not rfl rfl) ?_
  refine WL_val rfl rfl rfl (R_move rfl rfl) ?_
  refine WL_split (s := 16) rfl (fun c1 => ?_) (fun c1 => ?_)
  · refine WL_skip rfl rfl rfl ?_
    refine WL_skip rfl rfl rfl ?_
    refine WL_skip rfl rfl rfl ?_
    refine WL_val rfl rfl rfl (R_pickT rfl rfl rfl) ?_
    refine WL_nil ?_
    refine WQ_code ?_
    refine WC_T rfl ?_
    refine WC_seq ?_
    refine WC_region ?_
    refine WL_do rfl rfl rfl (D_call (known_ok hs) rfl rfl rfl rfl (pqZ)) ?_
    rintro _ _ ⟨_, ⟨rfl, rfl⟩, rfl⟩
    refine WL_do0 rfl rfl (D_store (vs := [_]) rfl Try.sizeOf4 rfl rfl rfl rfl rfl (plZ) (by exact Nat.le_of_ble_eq_true rfl)) ?_
    rintro _ _ rfl
    refine WL_nil ?_
    refine WQ_code ?_
    refine WC_ret ?_
    refine WQ_retM0 rfl rfl (.cons (.cell1 rfl sc4 (mmZ) rfl) .nil) rfl (by
        exact ⟨rfl, rfl⟩) (pqZ)
  · have hT : (T.length : Int) ≤ 20 := hbf (by simpa using c1)
    refine WL_val rfl rfl rfl (R_load rfl sc37 rfl (mmZ) rfl) ?_
    refine WL_do rfl rfl rfl (D_call (few_ok T2 oa2 cap2 en2 ha2 hb2 20) rfl rfl rfl rfl (pqZ)) ?_
    rintro _ _ ⟨_, ⟨bf2, rfl, hbf2, rfl⟩, rfl⟩
    refine WL_val rfl rfl rfl (R_not rfl rfl) ?_
    refine WL_val rfl rfl rfl (R_pickF rfl rfl rfl) ?_
    refine WL_nil ?_
    refine WQ_code ?_
    refine WC_if rfl (fun c2 => ?_) (fun c2 => ?_)
    · refine WC_seq ?_
      refine WC_region ?_
      refine WL_do rfl rfl rfl (D_call (known_ok hs) rfl rfl rfl rfl (pqZ)) ?_
      rintro _ _ ⟨_, ⟨rfl, rfl⟩, rfl⟩
      refine WL_do0 rfl rfl (D_store (vs := [_]) rfl Try.sizeOf4 rfl rfl rfl rfl rfl (plZ) (by exact Nat.le_of_ble_eq_true rfl)) ?_
      rintro _ _ rfl
      refine WL_nil ?_
      refine WQ_code ?_
      refine WC_ret ?_
      refine WQ_retM0 rfl rfl (.cons (.cell1 rfl sc4 (mmZ) rfl) .nil) rfl (by
          exact ⟨rfl, rfl⟩) (pqZ)
    · have hT2 : (T2.length : Int) ≤ 20 := hbf2 (by simpa using c2)
      refine WC_skip ?_
      refine WQ_code ?_
      refine WC_seq ?_
      refine WC_region ?_
      refine WL_do rfl rfl rfl (D_call (rnew_ok) rfl rfl rfl rfl (pqZ)) ?_
      rintro _ _ ⟨_, ⟨r0, rfl, rfl, g0⟩, rfl⟩
      refine WL_do rfl rfl rfl (D_alloc rfl zv25) ?_
      rintro _ _ ⟨b3, rfl, rfl⟩
      refine WL_do0 rfl rfl (D_store (vs := [_]) rfl Try.sizeOf25 rfl rfl rfl rfl rfl (plZ) (by exact Nat.le_of_ble_eq_true rfl)) ?_
      rintro _ _ rfl
      refine WL_nil ?_
      refine WQ_code ?_
      refine WC_seq ?_
      refine WC_seq ?_
      refine WC_region ?_
      refine WL_val rfl rfl rfl (R_load rfl sc25 rfl (mmZ) rfl) ?_
      refine WL_val rfl rfl rfl (R_ptrEqNil rfl Try.underlying25 rfl) ?_
      refine WL_nil ?_
      refine WQ_code ?_
      refine WC_F rfl ?_
      refine WC_skip ?_
      refine WQ_code ?_
      refine WC_seq ?_
      refine WC_region ?_
      refine WL_do rfl rfl rfl (D_alloc rfl zv27) ?_
      rintro _ _ ⟨b4, rfl, rfl⟩
      refine WL_nil ?_
      refine WQ_code ?_
      refine WC_seq ?_
      refine WC_region ?_
      refine WL_val rfl rfl rfl (R_assign rfl rfl) ?_
      refine WL_nil ?_
      refine WQ_code ?_
      refine WC_seq ?_
      refine WC_seq ?_
      refine WC_region ?_
      refine WL_val rfl rfl rfl (R_assign rfl rfl) ?_
      refine WL_nil ?_
      refine WQ_code ?_
      refine WC_block ?_
      refine WC_none 56 ?_
      refine WC_loopF (G := PlW) [7, 8, 25, 26, 27, 28, 29, 30, 31, 32, 33, 34, 35, 36, 37, 38, 39, 40, 41, 42, 43, 44, 45, 46, 47] (fun y => y.i ≤ T.length ∧ RgIs y.W y.r ∧ Own y.o y.W.length y.c 3 (y.W.flatMap encBd) y.tl) (fun y => [(8, .int .i64 (y.i : Int))]) (fun y => ⟨some b3, cl [ptrR y.r.p] 25⟩ :: ⟨some b4, cl [slV y.o y.W.length y.c] 27⟩ :: rgH y.r ++ [⟨y.o, cl (y.W.flatMap encBd ++ y.tl) 56⟩]) (fun y => T.length - y.i) (⟨0, [], r0, none, 0, []⟩) (⟨Nat.zero_le _, g0, Own.empty 3⟩) leZ (pqZ) ?_
      rintro y ⟨hyi, hyr, hyo⟩
      refine WC_seq ?_
      refine WC_seq ?_
      refine WC_region ?_
      refine WL_val rfl rfl rfl (R_move rfl rfl) ?_
      refine WL_val rfl rfl rfl (R_move rfl rfl) ?_
      refine WL_val rfl rfl rfl (R_len rfl Try.underlying37 rfl) ?_
      refine WL_val rfl rfl rfl (R_lss rfl rfl rfl) ?_
      refine WL_nil ?_
      refine WQ_code ?_
      refine WC_dec rfl (fun c3 => ?_) (fun c3 => ?_)
      · refine WC_skip ?_
        refine WQ_code ?_
        refine WC_seq ?_
        refine WC_block ?_
        refine WC_seq ?_
        refine WC_drawE [⟨some b3, _⟩, ⟨some b4, _⟩, rgE1 y.r, rgE2 y.r, ⟨y.o, cl (y.W.flatMap encBd ++ y.tl) 56⟩] [(0, true), (1, true)] [(2, true), (3, true), (4, true), (5, true), (6, false), (7, true), (8, true), (9, true), (10, true), (11, false), (12, false), (13, true)] followsMixed rfl rfl (by kernel_rfl) (pqZ) ?_
        refine WZ_early rfl rfl rfl rfl (R_load rfl sc25 rfl (mmZ) rfl) ?_
        refine WZ_early rfl rfl rfl rfl (R_load rfl sc27 rfl (mmZ) rfl) ?_
        refine WZ_rest ?_
        obtain ⟨a9, ha9⟩ := getE (T := T) (i := y.i) (by omega)
        obtain ⟨lb, lk, lcs, le, lfr, rfl, rfl, hat⟩ := ha.some (by omega)
        refine WM_val rfl rfl rfl rfl (R_move rfl rfl) ?_
        refine WM_val rfl rfl rfl rfl (R_move rfl rfl) ?_
        refine WM_val rfl rfl rfl rfl (R_indexAddrN rfl Try.underlying37 Try.sizeOf41 rfl rfl (by omega)) ?_
        refine WM_val rfl rfl rfl rfl (R_loadAG (vs := encRA a9) rfl ag41 rfl mmZ rfl (hat y.i a9 ha9)) ?_
        refine WM_do rfl rfl rfl rfl (D_call (step_ok hyr hyo a9) rfl rfl rfl rfl (pqZ)) ?_
        rintro _ _ ⟨_, ⟨W2, r2, o2, cz2, tl2, rfl, g2, own2, rfl⟩, rfl⟩
        refine ⟨⟨_, pqZ⟩, ?_⟩
        refine WM_val rfl rfl rfl rfl (R_move rfl rfl) ?_
        refine WM_val rfl rfl rfl rfl (R_extract rfl rfl rfl) ?_
        refine WM_val rfl rfl rfl rfl (R_extract rfl rfl rfl) ?_
        refine WM_val rfl rfl rfl rfl (R_extract rfl rfl rfl) ?_
        refine WM_do0 rfl rfl rfl (D_store (vs := [_]) rfl Try.sizeOf25 rfl rfl rfl rfl rfl (plZ) (by exact Nat.le_of_ble_eq_true rfl)) ?_
        rintro _ _ rfl
        refine ⟨⟨_, pqZ⟩, ?_⟩
        refine WM_do0 rfl rfl rfl (D_store (vs := [_]) rfl Try.sizeOf27 rfl rfl rfl rfl rfl (plZ) (by exact Nat.le_of_ble_eq_true rfl)) ?_
        rintro _ _ rfl
        refine ⟨⟨_, pqZ⟩, ?_⟩
        refine WM_val rfl rfl rfl rfl (R_assign rfl rfl) ?_
        refine WM_nil ?_
        refine WQ_code ?_
        refine WC_seq ?_
        refine WC_region ?_
        refine WL_val rfl rfl rfl (R_load rfl sc25 rfl (mmZ) rfl) ?_
        refine WL_val rfl rfl rfl (R_ptrEqNil rfl Try.underlying25 rfl) ?_
        refine WL_val rfl rfl rfl (R_move rfl rfl) ?_
        refine WL_val rfl rfl rfl (R_move rfl rfl) ?_
        refine WL_val rfl rfl rfl (R_not rfl rfl) ?_
        refine WL_val rfl rfl rfl (R_pickF rfl rfl rfl) ?_
        refine WL_nil ?_
        refine WQ_code ?_
        refine WC_F rfl ?_
        refine WC_skip ?_
        refine WQ_code ?_
        refine WC_region ?_
        refine WL_val rfl rfl rfl (R_move rfl rfl) ?_
        refine WL_val rfl rfl rfl (R_add rfl rfl rfl (by omega)) ?_
        refine WL_val rfl rfl rfl (R_assign rfl rfl) ?_
        refine WL_nil ?_
        refine WQ_nextF (gg := y) (⟨y.i + 1, W2, r2, o2, cz2, tl2⟩) (⟨by dsimp only; omega, g2, own2⟩) (by dsimp only; omega) leZ (psZ) rfl (pqZ)
      · refine WC_exit ?_
        refine WQ_code ?_
        refine WC_seq ?_
        refine WC_region ?_
        refine WL_val rfl rfl rfl (R_load rfl sc25 rfl (mmZ) rfl) ?_
        refine WL_do rfl rfl rfl (D_call (all_ok hyr) rfl rfl rfl rfl (pqZ)) ?_
        rintro _ _ ⟨_, ⟨cb, m2, rfl, rfl⟩, rfl⟩
        refine WL_val rfl rfl rfl (R_assign rfl rfl) ?_
        refine WL_nil ?_
        refine WQ_code ?_
        refine WC_seq ?_
        refine WC_seq ?_
        refine WC_region ?_
        refine WL_val rfl rfl rfl (R_move rfl rfl) ?_
        refine WL_val rfl rfl rfl (R_funcEqNil rfl Try.underlying53 rfl) ?_
        refine WL_nil ?_
        refine WQ_code ?_
        refine WC_F rfl ?_
        refine WC_skip ?_
        refine WQ_code ?_
        refine WC_seq ?_
        refine WC_region ?_
        refine WL_do rfl rfl rfl (D_alloc rfl zv3) ?_
        rintro _ _ ⟨b5, rfl, rfl⟩
        refine WL_do0 rfl rfl (D_store (vs := [_]) rfl Try.sizeOf3 rfl rfl rfl rfl rfl (plZ) (by exact Nat.le_of_ble_eq_true rfl)) ?_
        rintro _ _ rfl
        refine WL_nil ?_
        refine WQ_code ?_
        refine WC_seq ?_
        refine WC_seq ?_
        refine WC_region ?_
        refine WL_val rfl rfl rfl (R_move rfl rfl) ?_
        refine WL_nil ?_
        refine WQ_code ?_
        refine WC_block ?_
        refine WC_range (G := ItR) (GX := Unit) (all2_ok hs hyr.len cb m2 y.r.es y.r.c hyr.mp hyr.srt) rfl rfl (fun _ => rfl) rfl (fun pre g => g.n = pre.length ∧ RgIs g.W g.r) (fun g => ⟨some b5, cl [.int .i64 (g.n : Int)] 3⟩ :: ⟨some b3, cl [ptrR g.r.p] 25⟩ :: ⟨some b4, cl [slV y.o y.W.length y.c] 27⟩ :: ⟨y.o, cl (y.W.flatMap encBd ++ y.tl) 56⟩ :: ⟨some b1, cl [.slice oa2 T2.length cap2] 37⟩ :: en2 :: ⟨some b2, cl [.bool false] 4⟩ :: rgH g.r) (fun _ _ _ => False) (fun _ => []) (⟨0, y.W, y.r⟩) (⟨rfl, hyr⟩) (pqZ) (pqZ) ?_ ?_ ?_
        · intro l pre x suf gg hx hI w2
          obtain ⟨n9, V, q⟩ := gg
          dsimp only at hI ⊢
          obtain ⟨rfl, hg⟩ := hI
          have hlt := (List.getElem?_eq_some_iff.1 (at_preW hx)).1
          obtain ⟨wb9, hwb⟩ := hyo.some_of (by omega)
          have hwl := hyr.len
          refine WC_seq ?_
          refine WC_region ?_
          refine WL_do rfl rfl rfl (D_alloc rfl zv23) ?_
          rintro _ _ ⟨b6, rfl, rfl⟩
          refine WL_do0 rfl rfl (D_store (vs := [_, _]) rfl Try.sizeOf23 rfl rfl rfl rfl rfl (plZ) (by exact Nat.le_of_ble_eq_true rfl)) ?_
          rintro _ _ rfl
          refine WL_nil ?_
          refine WQ_code ?_
          refine WC_region ?_
          refine WL_val rfl rfl rfl (R_assign rfl rfl) ?_
          refine WL_nil ?_
          refine WQ_begin (fun w3 => ?_)
          refine WC_block ?_
          refine WC_seq ?_
          refine WC_seq ?_
          refine WC_draw _ [(0, true), (1, true), (2, true), (3, true), (4, true), (5, true), (6, true), (7, true), (8, true), (9, true), (10, true), (11, true), (12, true), (13, true)] followsMixed rfl rfl (by kernel_rfl) .all ?_
          refine WM_val rfl rfl rfl rfl (R_load rfl sc3 rfl (mmZ) rfl) ?_
          refine WM_val rfl rfl rfl rfl (R_load rfl sc27 rfl (mmZ) rfl) ?_
          refine WM_val rfl rfl rfl rfl (R_len rfl Try.underlying27 rfl) ?_
          refine WM_val rfl rfl rfl rfl (R_geq rfl rfl rfl) ?_
          refine WM_val rfl rfl rfl rfl (R_move rfl rfl) ?_
          refine WM_set (s := 59) (v := .bool false) rfl (by exact congrArg Value.bool (decide_eq_false (by omega))) ?_
          refine WM_val rfl rfl rfl rfl (R_load rfl sc27 rfl (mmZ) rfl) ?_
          refine WM_val rfl rfl rfl rfl (R_load rfl sc3 rfl (mmZ) rfl) ?_
          refine WM_val rfl rfl rfl rfl (R_idxO hwb rfl Try.underlying27 Try.sizeOf56 rfl rfl (by omega)) ?_
          refine WM_val rfl rfl rfl rfl (R_loadAO (vs := encBd x) hwb rfl ag56 rfl (mmZ) rfl (fm_at0 encBd3 (at_preW hx) (j := 0) (vs := encBd x) (fun j v h => by rw [Nat.zero_add]; exact h) (Nat.le_refl _))) ?_
          refine WM_val rfl rfl rfl rfl (R_loadA (vs := [_, _]) rfl ag23 rfl (mmZ) rfl (atZ)) ?_
          refine WM_val rfl rfl rfl rfl (R_move rfl rfl) ?_
          refine WM_val rfl rfl rfl rfl (R_build rfl zv56 pl56 rfl rfl) ?_
          refine WM_val rfl rfl rfl rfl (R_sne56 rfl rfl rfl rfl) ?_
          refine WM_set (s := 67) (v := .bool false) rfl (by simp) ?_
          refine WM_val rfl rfl rfl rfl (R_pickF rfl rfl rfl) ?_
          refine WM_nil ?_
          refine WQ_code ?_
          refine WC_F rfl ?_
          refine WC_skip ?_
          refine WQ_code ?_
          refine WC_seq ?_
          refine WC_seq ?_
          refine WC_region ?_
          refine WL_val rfl rfl rfl (R_load rfl sc3 rfl (mmZ) rfl) ?_
          refine WL_val rfl rfl rfl (R_load rfl sc37 rfl (mmZ) rfl) ?_
          refine WL_val rfl rfl rfl (R_len rfl Try.underlying37 rfl) ?_
          refine WL_val rfl rfl rfl (R_lss rfl rfl rfl) ?_
          refine WL_nil ?_
          refine WQ_code ?_
          refine WC_dec rfl (fun c4 => ?_) (fun c4 => ?_)
          · obtain ⟨a9, ha9⟩ := getE (T := T2) (i := pre.length) (by omega)
            obtain ⟨lb, lk, lcs, le, lfr, rfl, rfl, hat⟩ := ha2.some (by omega)
            refine WC_seq ?_
            refine WC_draw ([⟨some b3, _⟩, ⟨some b1, _⟩, ⟨some b5, _⟩, ⟨some lb, _⟩]) [(0, true), (1, true), (2, true), (3, true), (4, true), (5, true), (6, true), (7, true), (8, true), (9, true), (10, true), (11, false)] followsMixed rfl rfl (by kernel_rfl) pqZ ?_
            refine WM_val rfl rfl rfl rfl (R_load rfl sc25 rfl (mmZ) rfl) ?_
            refine WM_val rfl rfl rfl rfl (R_load rfl sc37 rfl (mmZ) rfl) ?_
            refine WM_val rfl rfl rfl rfl (R_load rfl sc3 rfl (mmZ) rfl) ?_
            refine WM_val rfl rfl rfl rfl (R_indexAddrN rfl Try.underlying37 Try.sizeOf41 rfl rfl (by omega)) ?_
            refine WM_val rfl rfl rfl rfl (R_fieldAddr rfl fa41_1 rfl) ?_
            refine WM_val rfl rfl rfl rfl (R_loadAG (vs := [.string a9.s, .int .i64 a9.p]) rfl ag23 rfl mmZ rfl (at_sub (hat pre.length a9 ha9) 1 2 rfl)) ?_
            refine WM_val rfl rfl rfl rfl (R_load rfl sc37 rfl (mmZ) rfl) ?_
            refine WM_val rfl rfl rfl rfl (R_load rfl sc3 rfl (mmZ) rfl) ?_
            refine WM_val rfl rfl rfl rfl (R_indexAddrN rfl Try.underlying37 Try.sizeOf41 rfl rfl (by omega)) ?_
            refine WM_val rfl rfl rfl rfl (R_fieldAddr rfl fa41_2 rfl) ?_
            refine WM_val rfl rfl rfl rfl (R_loadG (v := .int .i64 a9.v) rfl sc3 rfl mmZ (hat pre.length a9 ha9 3 _ rfl)) ?_
            refine WM_do rfl rfl rfl rfl (D_call (rbind_ok hg a9.s a9.p a9.v) rfl rfl rfl rfl (pqZ)) ?_
            rintro _ _ ⟨_, ⟨r2, rfl, rfl, p2, g2⟩, rfl⟩
            refine ⟨⟨_, pqZ⟩, ?_⟩
            rw [← p2]
            refine WM_nil ?_
            refine WQ_code ?_
            refine WC_region ?_
            refine WL_val rfl rfl rfl (R_load rfl sc25 rfl (mmZ) rfl) ?_
            refine WL_val rfl rfl rfl (R_loadA (vs := [_, _]) rfl ag23 rfl (mmZ) rfl (atZ)) ?_
            refine WL_do rfl rfl rfl (D_call (rrel_ok g2 x.1.1 x.1.2) rfl rfl rfl rfl (pqZ)) ?_
            rintro _ _ ⟨_, ⟨r3, rfl, rfl, p3, g3⟩, rfl⟩
            rw [← p3]
            refine WL_nil ?_
            refine WQ_code ?_
            refine WC_region ?_
            refine WL_val rfl rfl rfl (R_load rfl sc3 rfl (mmZ) rfl) ?_
            refine WL_val rfl rfl rfl (R_addR (r := ((pre.length + 1 : Nat) : Int)) rfl rfl rfl (by rw [IntWalk.i64_in _ (by omega)]; omega)) ?_
            refine WL_do0 rfl rfl (D_store (vs := [_]) rfl Try.sizeOf3 rfl rfl rfl rfl rfl (plZ) (by exact Nat.le_of_ble_eq_true rfl)) ?_
            rintro _ _ rfl
            refine WL_nil ?_
            refine WQ_rnd (⟨pre.length + 1, relW (bndW V (a9.s, a9.p) a9.v) (x.1.1, x.1.2), r3⟩) ?_ (pqZ)
            exact (⟨by simp, g3⟩)
          · refine WC_skip ?_
            refine WQ_code ?_
            refine WC_region ?_
            refine WL_val rfl rfl rfl (R_load rfl sc3 rfl (mmZ) rfl) ?_
            refine WL_val rfl rfl rfl (R_addR (r := ((pre.length + 1 : Nat) : Int)) rfl rfl rfl (by rw [IntWalk.i64_in _ (by omega)]; omega)) ?_
            refine WL_do0 rfl rfl (D_store (vs := [_]) rfl Try.sizeOf3 rfl rfl rfl rfl rfl (plZ) (by exact Nat.le_of_ble_eq_true rfl)) ?_
            rintro _ _ rfl
            refine WL_nil ?_
            refine WQ_rnd (⟨pre.length + 1, V, q⟩) ?_ (pqZ)
            exact (⟨by simp, hg⟩)
        · intro dl gg hI
          obtain ⟨n9, V, q⟩ := gg
          dsimp only at hI ⊢
          obtain ⟨rfl, hg⟩ := hI
          refine WQ_code ?_
          refine WC_seq ?_
          refine WC_region ?_
          refine WL_val rfl rfl rfl (R_load rfl sc3 rfl (mmZ) rfl) ?_
          refine WL_val rfl rfl rfl (R_load rfl sc27 rfl (mmZ) rfl) ?_
          refine WL_val rfl rfl rfl (R_len rfl Try.underlying27 rfl) ?_
          refine WL_val rfl rfl rfl (R_eql rfl rfl rfl) ?_
          refine WL_set (s := 93) (v := .bool true) rfl (by simp) ?_
          refine WL_val rfl rfl rfl (R_move rfl rfl) ?_
          refine WL_do rfl rfl rfl (D_call (known_ok hs) rfl rfl rfl rfl (pqZ)) ?_
          rintro _ _ ⟨_, ⟨rfl, rfl⟩, rfl⟩
          refine WL_val rfl rfl rfl (R_pickT rfl rfl rfl) ?_
          refine WL_do0 rfl rfl (D_store (vs := [_]) rfl Try.sizeOf4 rfl rfl rfl rfl rfl (plZ) (by exact Nat.le_of_ble_eq_true rfl)) ?_
          rintro _ _ rfl
          refine WL_nil ?_
          refine WQ_code ?_
          refine WC_ret ?_
          refine WQ_retM rfl (plZ) rfl (.cons (.cell1 rfl sc4 (mmZ) rfl) .nil) rfl (by
              exact ⟨rfl, rfl⟩) (pqZ)
        · intro dl c pre gx hIx
          exact hIx.elim
theorem iter_one (hs : SortOk) (T : List RA) (oa : Option Addr) (c : Nat) (ent : Ent) (ha : Arg oa ent 4 encRA T) (hb : T.length ≤ 9223372036854775807) (T2 : List RA) (oa2 : Option Addr) (cap2 : Nat) (ha2 : Arg oa2 ent 4 encRA T2) (hb2 : T2.length ≤ 9223372036854775807) : Spec Try.prog 6 [.slice oa T.length c, .slice oa2 T2.length cap2] [ent] (fun x H' => x = .bool true ∧ H' = [ent]) := by
  refine Spec.ofM (E := [(0, .slice oa T.length c), (1, .slice oa2 T2.length cap2)]) Try.func6 rfl (by kernel_rfl) Try.ntmps6 rfl rfl (fun w => ?_)
  refine WC_seq ?_
  refine WC_region ?_
  refine WL_do rfl rfl rfl (D_box (cs := [_]) rfl rfl rfl) ?_
  rintro _ _ ⟨b1, rfl, rfl⟩
  refine WL_do rfl rfl rfl (D_alloc rfl zv4) ?_
  rintro _ _ ⟨b2, rfl, rfl⟩
  refine WL_nil ?_
  refine WQ_code ?_
  refine WC_seq ?_
  refine WC_seq ?_
  refine WC_region ?_
  refine WL_val rfl rfl rfl (R_move rfl rfl) ?_
  refine WL_do rfl rfl rfl (D_call (few_ok T oa c ent ha hb 20) rfl rfl rfl rfl (pqZ)) ?_
  rintro _ _ ⟨_, ⟨bf, rfl, hbf, rfl⟩, rfl⟩
  refine WL_val rfl rfl rfl (R_not rfl rfl) ?_
  refine WL_val rfl rfl rfl (R_move rfl rfl) ?_
  refine WL_split (s := 16) rfl (fun c1 => ?_) (fun c1 => ?_)
  · refine WL_skip rfl rfl rfl ?_
    refine WL_skip rfl rfl rfl ?_
    refine WL_skip rfl rfl rfl ?_
    refine WL_val rfl rfl rfl (R_pickT rfl rfl rfl) ?_
    refine WL_nil ?_
    refine WQ_code ?_
    refine WC_T rfl ?_
    refine WC_seq ?_
    refine WC_region ?_
    refine WL_do rfl rfl rfl (D_call (known_ok hs) rfl rfl rfl rfl (pqZ)) ?_
    rintro _ _ ⟨_, ⟨rfl, rfl⟩, rfl⟩
    refine WL_do0 rfl rfl (D_store (vs := [_]) rfl Try.sizeOf4 rfl rfl rfl rfl rfl (plZ) (by exact Nat.le_of_ble_eq_true rfl)) ?_
    rintro _ _ rfl
    refine WL_nil ?_
    refine WQ_code ?_
    refine WC_ret ?_
    refine WQ_retM0 rfl rfl (.cons (.cell1 rfl sc4 (mmZ) rfl) .nil) rfl (by
        exact ⟨rfl, rfl⟩) (pqZ)
  · have hT : (T.length : Int) ≤ 20 := hbf (by simpa using c1)
    refine WL_val rfl rfl rfl (R_load rfl sc37 rfl (mmZ) rfl) ?_
    refine WL_do rfl rfl rfl (D_call (few_ok T2 oa2 cap2 ent ha2 hb2 20) rfl rfl rfl rfl (pqZ)) ?_
    rintro _ _ ⟨_, ⟨bf2, rfl, hbf2, rfl⟩, rfl⟩
    refine WL_val rfl rfl rfl (R_not rfl rfl) ?_
    refine WL_val rfl rfl rfl (R_pickF rfl rfl rfl) ?_
    refine WL_nil ?_
    refine WQ_code ?_
    refine WC_if rfl (fun c2 => ?_) (fun c2 => ?_)
    · refine WC_seq ?_
      refine WC_region ?_
      refine WL_do rfl rfl rfl (D_call (known_ok hs) rfl rfl rfl rfl (pqZ)) ?_
      rintro _ _ ⟨_, ⟨rfl, rfl⟩, rfl⟩
      refine WL_do0 rfl rfl (D_store (vs := [_]) rfl Try.sizeOf4 rfl rfl rfl rfl rfl (plZ) (by exact Nat.le_of_ble_eq_true rfl)) ?_
      rintro _ _ rfl
      refine WL_nil ?_
      refine WQ_code ?_
      refine WC_ret ?_
      refine WQ_retM0 rfl rfl (.cons (.cell1 rfl sc4 (mmZ) rfl) .nil) rfl (by
          exact ⟨rfl, rfl⟩) (pqZ)
    · have hT2 : (T2.length : Int) ≤ 20 := hbf2 (by simpa using c2)
      refine WC_skip ?_
      refine WQ_code ?_
      refine WC_seq ?_
      refine WC_region ?_
      refine WL_do rfl rfl rfl (D_call (rnew_ok) rfl rfl rfl rfl (pqZ)) ?_
      rintro _ _ ⟨_, ⟨r0, rfl, rfl, g0⟩, rfl⟩
      refine WL_do rfl rfl rfl (D_alloc rfl zv25) ?_
      rintro _ _ ⟨b3, rfl, rfl⟩
      refine WL_do0 rfl rfl (D_store (vs := [_]) rfl Try.sizeOf25 rfl rfl rfl rfl rfl (plZ) (by exact Nat.le_of_ble_eq_true rfl)) ?_
      rintro _ _ rfl
      refine WL_nil ?_
      refine WQ_code ?_
      refine WC_seq ?_
      refine WC_seq ?_
      refine WC_region ?_
      refine WL_val rfl rfl rfl (R_load rfl sc25 rfl (mmZ) rfl) ?_
      refine WL_val rfl rfl rfl (R_ptrEqNil rfl Try.underlying25 rfl) ?_
      refine WL_nil ?_
      refine WQ_code ?_
      refine WC_F rfl ?_
      refine WC_skip ?_
      refine WQ_code ?_
      refine WC_seq ?_
      refine WC_region ?_
      refine WL_do rfl rfl rfl (D_alloc rfl zv27) ?_
      rintro _ _ ⟨b4, rfl, rfl⟩
      refine WL_nil ?_
      refine WQ_code ?_
      refine WC_seq ?_
      refine WC_region ?_
      refine WL_val rfl rfl rfl (R_assign rfl rfl) ?_
      refine WL_nil ?_
      refine WQ_code ?_
      refine WC_seq ?_
      refine WC_seq ?_
      refine WC_region ?_
      refine WL_val rfl rfl rfl (R_assign rfl rfl) ?_
      refine WL_nil ?_
      refine WQ_code ?_
      refine WC_block ?_
      refine WC_none 56 ?_
      refine WC_loopF (G := PlW) [7, 8, 25, 26, 27, 28, 29, 30, 31, 32, 33, 34, 35, 36, 37, 38, 39, 40, 41, 42, 43, 44, 45, 46, 47] (fun y => y.i ≤ T.length ∧ RgIs y.W y.r ∧ Own y.o y.W.length y.c 3 (y.W.flatMap encBd) y.tl) (fun y => [(8, .int .i64 (y.i : Int))]) (fun y => ⟨some b3, cl [ptrR y.r.p] 25⟩ :: ⟨some b4, cl [slV y.o y.W.length y.c] 27⟩ :: rgH y.r ++ [⟨y.o, cl (y.W.flatMap encBd ++ y.tl) 56⟩]) (fun y => T.length - y.i) (⟨0, [], r0, none, 0, []⟩) (⟨Nat.zero_le _, g0, Own.empty 3⟩) leZ (pqZ) ?_
      rintro y ⟨hyi, hyr, hyo⟩
      refine WC_seq ?_
      refine WC_seq ?_
      refine WC_region ?_
      refine WL_val rfl rfl rfl (R_move rfl rfl) ?_
      refine WL_val rfl rfl rfl (R_move rfl rfl) ?_
      refine WL_val rfl rfl rfl (R_len rfl Try.underlying37 rfl) ?_
      refine WL_val rfl rfl rfl (R_lss rfl rfl rfl) ?_
      refine WL_nil ?_
      refine WQ_code ?_
      refine WC_dec rfl (fun c3 => ?_) (fun c3 => ?_)
      · refine WC_skip ?_
        refine WQ_code ?_
        refine WC_seq ?_
        refine WC_block ?_
        refine WC_seq ?_
        refine WC_drawE [⟨some b3, _⟩, ⟨some b4, _⟩, rgE1 y.r, rgE2 y.r, ⟨y.o, cl (y.W.flatMap encBd ++ y.tl) 56⟩] [(0, true), (1, true)] [(2, true), (3, true), (4, true), (5, true), (6, false), (7, true), (8, true), (9, true), (10, true), (11, false), (12, false), (13, true)] followsMixed rfl rfl (by kernel_rfl) (pqZ) ?_
        refine WZ_early rfl rfl rfl rfl (R_load rfl sc25 rfl (mmZ) rfl) ?_
        refine WZ_early rfl rfl rfl rfl (R_load rfl sc27 rfl (mmZ) rfl) ?_
        refine WZ_rest ?_
        obtain ⟨a9, ha9⟩ := getE (T := T) (i := y.i) (by omega)
        obtain ⟨lb, lk, lcs, le, lfr, rfl, rfl, hat⟩ := ha.some (by omega)
        refine WM_val rfl rfl rfl rfl (R_move rfl rfl) ?_
        refine WM_val rfl rfl rfl rfl (R_move rfl rfl) ?_
        refine WM_val rfl rfl rfl rfl (R_indexAddrN rfl Try.underlying37 Try.sizeOf41 rfl rfl (by omega)) ?_
        refine WM_val rfl rfl rfl rfl (R_loadAG (vs := encRA a9) rfl ag41 rfl mmZ rfl (hat y.i a9 ha9)) ?_
        refine WM_do rfl rfl rfl rfl (D_call (step_ok hyr hyo a9) rfl rfl rfl rfl (pqZ)) ?_
        rintro _ _ ⟨_, ⟨W2, r2, o2, cz2, tl2, rfl, g2, own2, rfl⟩, rfl⟩
        refine ⟨⟨_, pqZ⟩, ?_⟩
        refine WM_val rfl rfl rfl rfl (R_move rfl rfl) ?_
        refine WM_val rfl rfl rfl rfl (R_extract rfl rfl rfl) ?_
        refine WM_val rfl rfl rfl rfl (R_extract rfl rfl rfl) ?_
        refine WM_val rfl rfl rfl rfl (R_extract rfl rfl rfl) ?_
        refine WM_do0 rfl rfl rfl (D_store (vs := [_]) rfl Try.sizeOf25 rfl rfl rfl rfl rfl (plZ) (by exact Nat.le_of_ble_eq_true rfl)) ?_
        rintro _ _ rfl
        refine ⟨⟨_, pqZ⟩, ?_⟩
        refine WM_do0 rfl rfl rfl (D_store (vs := [_]) rfl Try.sizeOf27 rfl rfl rfl rfl rfl (plZ) (by exact Nat.le_of_ble_eq_true rfl)) ?_
        rintro _ _ rfl
        refine ⟨⟨_, pqZ⟩, ?_⟩
        refine WM_val rfl rfl rfl rfl (R_assign rfl rfl) ?_
        refine WM_nil ?_
        refine WQ_code ?_
        refine WC_seq ?_
        refine WC_region ?_
        refine WL_val rfl rfl rfl (R_load rfl sc25 rfl (mmZ) rfl) ?_
        refine WL_val rfl rfl rfl (R_ptrEqNil rfl Try.underlying25 rfl) ?_
        refine WL_val rfl rfl rfl (R_move rfl rfl) ?_
        refine WL_val rfl rfl rfl (R_move rfl rfl) ?_
        refine WL_val rfl rfl rfl (R_not rfl rfl) ?_
        refine WL_val rfl rfl rfl (R_pickF rfl rfl rfl) ?_
        refine WL_nil ?_
        refine WQ_code ?_
        refine WC_F rfl ?_
        refine WC_skip ?_
        refine WQ_code ?_
        refine WC_region ?_
        refine WL_val rfl rfl rfl (R_move rfl rfl) ?_
        refine WL_val rfl rfl rfl (R_add rfl rfl rfl (by omega)) ?_
        refine WL_val rfl rfl rfl (R_assign rfl rfl) ?_
        refine WL_nil ?_
        refine WQ_nextF (gg := y) (⟨y.i + 1, W2, r2, o2, cz2, tl2⟩) (⟨by dsimp only; omega, g2, own2⟩) (by dsimp only; omega) leZ (psZ) rfl (pqZ)
      · refine WC_exit ?_
        refine WQ_code ?_
        refine WC_seq ?_
        refine WC_region ?_
        refine WL_val rfl rfl rfl (R_load rfl sc25 rfl (mmZ) rfl) ?_
        refine WL_do rfl rfl rfl (D_call (all_ok hyr) rfl rfl rfl rfl (pqZ)) ?_
        rintro _ _ ⟨_, ⟨cb, m2, rfl, rfl⟩, rfl⟩
        refine WL_val rfl rfl rfl (R_assign rfl rfl) ?_
        refine WL_nil ?_
        refine WQ_code ?_
        refine WC_seq ?_
        refine WC_seq ?_
        refine WC_region ?_
        refine WL_val rfl rfl rfl (R_move rfl rfl) ?_
        refine WL_val rfl rfl rfl (R_funcEqNil rfl Try.underlying53 rfl) ?_
        refine WL_nil ?_
        refine WQ_code ?_
        refine WC_F rfl ?_
        refine WC_skip ?_
        refine WQ_code ?_
        refine WC_seq ?_
        refine WC_region ?_
        refine WL_do rfl rfl rfl (D_alloc rfl zv3) ?_
        rintro _ _ ⟨b5, rfl, rfl⟩
        refine WL_do0 rfl rfl (D_store (vs := [_]) rfl Try.sizeOf3 rfl rfl rfl rfl rfl (plZ) (by exact Nat.le_of_ble_eq_true rfl)) ?_
        rintro _ _ rfl
        refine WL_nil ?_
        refine WQ_code ?_
        refine WC_seq ?_
        refine WC_seq ?_
        refine WC_region ?_
        refine WL_val rfl rfl rfl (R_move rfl rfl) ?_
        refine WL_nil ?_
        refine WQ_code ?_
        refine WC_block ?_
        refine WC_range (G := ItR) (GX := Unit) (all2_ok hs hyr.len cb m2 y.r.es y.r.c hyr.mp hyr.srt) rfl rfl (fun _ => rfl) rfl (fun pre g => g.n = pre.length ∧ RgIs g.W g.r) (fun g => ⟨some b5, cl [.int .i64 (g.n : Int)] 3⟩ :: ⟨some b3, cl [ptrR g.r.p] 25⟩ :: ⟨some b4, cl [slV y.o y.W.length y.c] 27⟩ :: ⟨y.o, cl (y.W.flatMap encBd ++ y.tl) 56⟩ :: ⟨some b1, cl [.slice oa2 T2.length cap2] 37⟩ :: ent :: ⟨some b2, cl [.bool false] 4⟩ :: rgH g.r) (fun _ _ _ => False) (fun _ => []) (⟨0, y.W, y.r⟩) (⟨rfl, hyr⟩) (pqZ) (pqZ) ?_ ?_ ?_
        · intro l pre x suf gg hx hI w2
          obtain ⟨n9, V, q⟩ := gg
          dsimp only at hI ⊢
          obtain ⟨rfl, hg⟩ := hI
          have hlt := (List.getElem?_eq_some_iff.1 (at_preW hx)).1
          obtain ⟨wb9, hwb⟩ := hyo.some_of (by omega)
          have hwl := hyr.len
          refine WC_seq ?_
          refine WC_region ?_
          refine WL_do rfl rfl rfl (D_alloc rfl zv23) ?_
          rintro _ _ ⟨b6, rfl, rfl⟩
          refine WL_do0 rfl rfl (D_store (vs := [_, _]) rfl Try.sizeOf23 rfl rfl rfl rfl rfl (plZ) (by exact Nat.le_of_ble_eq_true rfl)) ?_
          rintro _ _ rfl
          refine WL_nil ?_
          refine WQ_code ?_
          refine WC_region ?_
          refine WL_val rfl rfl rfl (R_assign rfl rfl) ?_
          refine WL_nil ?_
          refine WQ_begin (fun w3 => ?_)
          refine WC_block ?_
          refine WC_seq ?_
          refine WC_seq ?_
          refine WC_draw _ [(0, true), (1, true), (2, true), (3, true), (4, true), (5, true), (6, true), (7, true), (8, true), (9, true), (10, true), (11, true), (12, true), (13, true)] followsMixed rfl rfl (by kernel_rfl) .all ?_
          refine WM_val rfl rfl rfl rfl (R_load rfl sc3 rfl (mmZ) rfl) ?_
          refine WM_val rfl rfl rfl rfl (R_load rfl sc27 rfl (mmZ) rfl) ?_
          refine WM_val rfl rfl rfl rfl (R_len rfl Try.underlying27 rfl) ?_
          refine WM_val rfl rfl rfl rfl (R_geq rfl rfl rfl) ?_
          refine WM_val rfl rfl rfl rfl (R_move rfl rfl) ?_
          refine WM_set (s := 59) (v := .bool false) rfl (by exact congrArg Value.bool (decide_eq_false (by omega))) ?_
          refine WM_val rfl rfl rfl rfl (R_load rfl sc27 rfl (mmZ) rfl) ?_
          refine WM_val rfl rfl rfl rfl (R_load rfl sc3 rfl (mmZ) rfl) ?_
          refine WM_val rfl rfl rfl rfl (R_idxO hwb rfl Try.underlying27 Try.sizeOf56 rfl rfl (by omega)) ?_
          refine WM_val rfl rfl rfl rfl (R_loadAO (vs := encBd x) hwb rfl ag56 rfl (mmZ) rfl (fm_at0 encBd3 (at_preW hx) (j := 0) (vs := encBd x) (fun j v h => by rw [Nat.zero_add]; exact h) (Nat.le_refl _))) ?_
          refine WM_val rfl rfl rfl rfl (R_loadA (vs := [_, _]) rfl ag23 rfl (mmZ) rfl (atZ)) ?_
          refine WM_val rfl rfl rfl rfl (R_move rfl rfl) ?_
          refine WM_val rfl rfl rfl rfl (R_build rfl zv56 pl56 rfl rfl) ?_
          refine WM_val rfl rfl rfl rfl (R_sne56 rfl rfl rfl rfl) ?_
          refine WM_set (s := 67) (v := .bool false) rfl (by simp) ?_
          refine WM_val rfl rfl rfl rfl (R_pickF rfl rfl rfl) ?_
          refine WM_nil ?_
          refine WQ_code ?_
          refine WC_F rfl ?_
          refine WC_skip ?_
          refine WQ_code ?_
          refine WC_seq ?_
          refine WC_seq ?_
          refine WC_region ?_
          refine WL_val rfl rfl rfl (R_load rfl sc3 rfl (mmZ) rfl) ?_
          refine WL_val rfl rfl rfl (R_load rfl sc37 rfl (mmZ) rfl) ?_
          refine WL_val rfl rfl rfl (R_len rfl Try.underlying37 rfl) ?_
          refine WL_val rfl rfl rfl (R_lss rfl rfl rfl) ?_
          refine WL_nil ?_
          refine WQ_code ?_
          refine WC_dec rfl (fun c4 => ?_) (fun c4 => ?_)
          · obtain ⟨a9, ha9⟩ := getE (T := T2) (i := pre.length) (by omega)
            obtain ⟨lb, lk, lcs, le, lfr, rfl, rfl, hat⟩ := ha2.some (by omega)
            refine WC_seq ?_
            refine WC_draw ([⟨some b3, _⟩, ⟨some b1, _⟩, ⟨some b5, _⟩, ⟨some lb, _⟩]) [(0, true), (1, true), (2, true), (3, true), (4, true), (5, true), (6, true), (7, true), (8, true), (9, true), (10, true), (11, false)] followsMixed rfl rfl (by kernel_rfl) pqZ ?_
            refine WM_val rfl rfl rfl rfl (R_load rfl sc25 rfl (mmZ) rfl) ?_
            refine WM_val rfl rfl rfl rfl (R_load rfl sc37 rfl (mmZ) rfl) ?_
            refine WM_val rfl rfl rfl rfl (R_load rfl sc3 rfl (mmZ) rfl) ?_
            refine WM_val rfl rfl rfl rfl (R_indexAddrN rfl Try.underlying37 Try.sizeOf41 rfl rfl (by omega)) ?_
            refine WM_val rfl rfl rfl rfl (R_fieldAddr rfl fa41_1 rfl) ?_
            refine WM_val rfl rfl rfl rfl (R_loadAG (vs := [.string a9.s, .int .i64 a9.p]) rfl ag23 rfl mmZ rfl (at_sub (hat pre.length a9 ha9) 1 2 rfl)) ?_
            refine WM_val rfl rfl rfl rfl (R_load rfl sc37 rfl (mmZ) rfl) ?_
            refine WM_val rfl rfl rfl rfl (R_load rfl sc3 rfl (mmZ) rfl) ?_
            refine WM_val rfl rfl rfl rfl (R_indexAddrN rfl Try.underlying37 Try.sizeOf41 rfl rfl (by omega)) ?_
            refine WM_val rfl rfl rfl rfl (R_fieldAddr rfl fa41_2 rfl) ?_
            refine WM_val rfl rfl rfl rfl (R_loadG (v := .int .i64 a9.v) rfl sc3 rfl mmZ (hat pre.length a9 ha9 3 _ rfl)) ?_
            refine WM_do rfl rfl rfl rfl (D_call (rbind_ok hg a9.s a9.p a9.v) rfl rfl rfl rfl (pqZ)) ?_
            rintro _ _ ⟨_, ⟨r2, rfl, rfl, p2, g2⟩, rfl⟩
            refine ⟨⟨_, pqZ⟩, ?_⟩
            rw [← p2]
            refine WM_nil ?_
            refine WQ_code ?_
            refine WC_region ?_
            refine WL_val rfl rfl rfl (R_load rfl sc25 rfl (mmZ) rfl) ?_
            refine WL_val rfl rfl rfl (R_loadA (vs := [_, _]) rfl ag23 rfl (mmZ) rfl (atZ)) ?_
            refine WL_do rfl rfl rfl (D_call (rrel_ok g2 x.1.1 x.1.2) rfl rfl rfl rfl (pqZ)) ?_
            rintro _ _ ⟨_, ⟨r3, rfl, rfl, p3, g3⟩, rfl⟩
            rw [← p3]
            refine WL_nil ?_
            refine WQ_code ?_
            refine WC_region ?_
            refine WL_val rfl rfl rfl (R_load rfl sc3 rfl (mmZ) rfl) ?_
            refine WL_val rfl rfl rfl (R_addR (r := ((pre.length + 1 : Nat) : Int)) rfl rfl rfl (by rw [IntWalk.i64_in _ (by omega)]; omega)) ?_
            refine WL_do0 rfl rfl (D_store (vs := [_]) rfl Try.sizeOf3 rfl rfl rfl rfl rfl (plZ) (by exact Nat.le_of_ble_eq_true rfl)) ?_
            rintro _ _ rfl
            refine WL_nil ?_
            refine WQ_rnd (⟨pre.length + 1, relW (bndW V (a9.s, a9.p) a9.v) (x.1.1, x.1.2), r3⟩) ?_ (pqZ)
            exact (⟨by simp, g3⟩)
          · refine WC_skip ?_
            refine WQ_code ?_
            refine WC_region ?_
            refine WL_val rfl rfl rfl (R_load rfl sc3 rfl (mmZ) rfl) ?_
            refine WL_val rfl rfl rfl (R_addR (r := ((pre.length + 1 : Nat) : Int)) rfl rfl rfl (by rw [IntWalk.i64_in _ (by omega)]; omega)) ?_
            refine WL_do0 rfl rfl (D_store (vs := [_]) rfl Try.sizeOf3 rfl rfl rfl rfl rfl (plZ) (by exact Nat.le_of_ble_eq_true rfl)) ?_
            rintro _ _ rfl
            refine WL_nil ?_
            refine WQ_rnd (⟨pre.length + 1, V, q⟩) ?_ (pqZ)
            exact (⟨by simp, hg⟩)
        · intro dl gg hI
          obtain ⟨n9, V, q⟩ := gg
          dsimp only at hI ⊢
          obtain ⟨rfl, hg⟩ := hI
          refine WQ_code ?_
          refine WC_seq ?_
          refine WC_region ?_
          refine WL_val rfl rfl rfl (R_load rfl sc3 rfl (mmZ) rfl) ?_
          refine WL_val rfl rfl rfl (R_load rfl sc27 rfl (mmZ) rfl) ?_
          refine WL_val rfl rfl rfl (R_len rfl Try.underlying27 rfl) ?_
          refine WL_val rfl rfl rfl (R_eql rfl rfl rfl) ?_
          refine WL_set (s := 93) (v := .bool true) rfl (by simp) ?_
          refine WL_val rfl rfl rfl (R_move rfl rfl) ?_
          refine WL_do rfl rfl rfl (D_call (known_ok hs) rfl rfl rfl rfl (pqZ)) ?_
          rintro _ _ ⟨_, ⟨rfl, rfl⟩, rfl⟩
          refine WL_val rfl rfl rfl (R_pickT rfl rfl rfl) ?_
          refine WL_do0 rfl rfl (D_store (vs := [_]) rfl Try.sizeOf4 rfl rfl rfl rfl rfl (plZ) (by exact Nat.le_of_ble_eq_true rfl)) ?_
          rintro _ _ rfl
          refine WL_nil ?_
          refine WQ_code ?_
          refine WC_ret ?_
          refine WQ_retM rfl (plZ) rfl (.cons (.cell1 rfl sc4 (mmZ) rfl) .nil) rfl (by
              exact ⟨rfl, rfl⟩) (pqZ)
        · intro dl c pre gx hIx
          exact hIx.elim

end Go.Proofs.Ytiomimjjdbijmaa
