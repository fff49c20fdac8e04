/-
  Chapter 17 (registry), part Law1: contracts of functions that the laws call, each for the heap it names.
-/
import Derived.Test.YtiomimjjdbijmaaRows
import Derived.Test.YtiomimjjdbijmaaZB
import Derived.Test.YtiomimjjdbijmaaSLMapJ
import Derived.Test.YtiomimjjdbijmaaSLScope
import Derived.Test.YtiomimjjdbijmaaTab
import Derived.Test.YtiomimjjdbijmaaReg2
import Derived.Test.YtiomimjjdbijmaaReg3
import Derived.Test.YtiomimjjdbijmaaZA
set_option linter.unusedVariables false
set_option maxRecDepth 20000
set_option maxHeartbeats 2000000
namespace Go.Proofs.Ytiomimjjdbijmaa


structure RA where
  wt : Int
  s : ByteArray
  p : Int
  v : Int
abbrev encRA (a : RA) : List Value := [.int .i64 a.wt, .string a.s, .int .i64 a.p, .int .i64 a.v]
theorem to_ok (s : ByteArray) (p : Int) : Spec Try.prog 11 [.string s, .int .i64 p] [] (fun x H' => x = adV (s, p) ∧ H' = []) := by
  refine Spec.of (E := [(0, .string s), (1, .int .i64 p)]) Try.func11 rfl (by kernel_rfl) Try.ntmps11 rfl rfl (fun w => ?_)
  refine WC_seq ?_
  refine WC_region ?_
  refine WL_do rfl rfl rfl (D_alloc rfl zv23) ?_
  rintro _ _ ⟨b1, rfl, rfl⟩
  refine WL_nil ?_
  refine WQ_code ?_
  refine WC_seq ?_
  refine WC_region ?_
  refine WL_val rfl rfl rfl (R_move rfl rfl) ?_
  refine WL_val rfl rfl rfl (R_move rfl rfl) ?_
  refine WL_val rfl rfl rfl (R_build rfl zv23 pl23 rfl rfl) ?_
  refine WL_do0 rfl rfl (D_store (vs := [_, _]) rfl Try.sizeOf23 rfl rfl rfl rfl rfl (plZ) (by exact Nat.le_of_ble_eq_true rfl)) ?_
  rintro _ _ rfl
  refine WL_nil ?_
  refine WQ_code ?_
  refine WC_ret ?_
  refine WQ_ret rfl rfl (.cons (.cell (vs := [_, _]) rfl ag23 (mmZ) rfl (atZ)) .nil) rfl (by
      exact ⟨rfl, rfl⟩) (pqZ)
theorem binds_ok {W : List Bd} {r : Rg} (hr : RgIs W r) (s : ByteArray) (p v : Int) (ws : ByteArray) (wp e : Int) : Spec Try.prog 12 [ptrR r.p, .agg #[.string s, .int .i64 p], .int .i64 v, .agg #[.string ws, .int .i64 wp], .int .i64 e] (rgH r)
    (fun x H' => ∃ r', x = .bool (decide (bndR W (s, p) v = (ws, wp) ∧ bndE W (s, p) v = e)) ∧ H' = rgH r' ∧ r'.p = r.p ∧ RgIs (bndW W (s, p) v) r') := by
  refine Spec.of (E := [(0, ptrR r.p), (1, .agg #[.string s, .int .i64 p]), (2, .int .i64 v), (3, .agg #[.string ws, .int .i64 wp]), (4, .int .i64 e)]) Try.func12 rfl (by kernel_rfl) Try.ntmps12 rfl rfl (fun w => ?_)
  refine WC_seq ?_
  refine WC_region ?_
  refine WL_do rfl rfl rfl (D_box (cs := [_, _]) rfl rfl rfl) ?_
  rintro _ _ ⟨b1, rfl, rfl⟩
  refine WL_do rfl rfl rfl (D_box (cs := [_, _]) rfl rfl rfl) ?_
  rintro _ _ ⟨b2, rfl, rfl⟩
  refine WL_val rfl rfl rfl (R_assign rfl rfl) ?_
  refine WL_nil ?_
  refine WQ_code ?_
  refine WC_seq ?_
  refine WC_region ?_
  refine WL_val rfl rfl rfl (R_move rfl rfl) ?_
  refine WL_val rfl rfl rfl (R_loadA (vs := [_, _]) rfl ag23 rfl (mmZ) rfl (atZ)) ?_
  refine WL_val rfl rfl rfl (R_move rfl rfl) ?_
  refine WL_do rfl rfl rfl (D_call (rbind_ok hr s p v) rfl rfl rfl rfl (pqZ)) ?_
  rintro _ _ ⟨_, ⟨r2, rfl, rfl, hp2, hr2⟩, rfl⟩
  refine WL_val rfl rfl rfl (R_move rfl rfl) ?_
  refine WL_val rfl rfl rfl (R_extract rfl rfl rfl) ?_
  refine WL_val rfl rfl rfl (R_extract rfl rfl rfl) ?_
  refine WL_do rfl rfl rfl (D_alloc rfl zv23) ?_
  rintro _ _ ⟨b3, rfl, rfl⟩
  refine WL_do0 rfl rfl (D_store (vs := [_, _]) rfl Try.sizeOf23 rfl rfl rfl rfl rfl (plZ) (by exact Nat.le_of_ble_eq_true rfl)) ?_
  rintro _ _ rfl
  refine WL_val rfl rfl rfl (R_assign rfl rfl) ?_
  refine WL_nil ?_
  refine WQ_code ?_
  refine WC_seq ?_
  refine WC_region ?_
  refine WL_val rfl rfl rfl (R_loadA (vs := [_, _]) rfl ag23 rfl (mmZ) rfl (atZ)) ?_
  refine WL_val rfl rfl rfl (R_loadA (vs := [_, _]) rfl ag23 rfl (mmZ) rfl (atZ)) ?_
  refine WL_val rfl rfl rfl (R_seq23 rfl rfl rfl rfl) ?_
  refine WL_val rfl rfl rfl (R_move rfl rfl) ?_
  refine WL_splitD (s := 23) rfl (fun c1 => ?_) (fun c1 => ?_)
  · have hg9 := c1
    refine WL_val rfl rfl rfl (R_move rfl rfl) ?_
    refine WL_val rfl rfl rfl (R_move rfl rfl) ?_
    refine WL_val rfl rfl rfl (R_eql rfl rfl rfl) ?_
    refine WL_val rfl rfl rfl (R_pickT rfl rfl rfl) ?_
    refine WL_val rfl rfl rfl (R_assign rfl rfl) ?_
    refine WL_nil ?_
    refine WQ_code ?_
    refine WC_ret ?_
    refine WQ_ret rfl rfl (.cons (.tmp rfl) .nil) rfl (by
        first | exact ⟨r2, congrArg Value.bool (decide_eq_decide.2 ⟨fun h => ⟨Prod.ext hg9.1 hg9.2, h⟩, fun h => h.2⟩), rfl, hp2, hr2⟩ | exact ⟨r2, congrArg Value.bool (decide_eq_false fun h => hg9 (by rw [h.1]; exact ⟨rfl, rfl⟩)).symm, rfl, hp2, hr2⟩) (pqZ)
  · have hg9 := c1
    refine WL_skip rfl rfl rfl ?_
    refine WL_skip rfl rfl rfl ?_
    refine WL_skip rfl rfl rfl ?_
    refine WL_val rfl rfl rfl (R_pickF rfl rfl rfl) ?_
    refine WL_val rfl rfl rfl (R_assign rfl rfl) ?_
    refine WL_nil ?_
    refine WQ_code ?_
    refine WC_ret ?_
    refine WQ_ret rfl rfl (.cons (.tmp rfl) .nil) rfl (by
        first | exact ⟨r2, congrArg Value.bool (decide_eq_decide.2 ⟨fun h => ⟨Prod.ext hg9.1 hg9.2, h⟩, fun h => h.2⟩), rfl, hp2, hr2⟩ | exact ⟨r2, congrArg Value.bool (decide_eq_false fun h => hg9 (by rw [h.1]; exact ⟨rfl, rfl⟩)).symm, rfl, hp2, hr2⟩) (pqZ)
theorem finds_ok {W : List Bd} {r : Rg} (hr : RgIs W r) (s : ByteArray) (p want e : Int) : Spec Try.prog 19 [ptrR r.p, .agg #[.string s, .int .i64 p], .int .i64 want, .int .i64 e] (rgH r) (fun x H' => x = .bool (decide ((lookR W (s, p)).1 = want ∧ (lookR W (s, p)).2 = e)) ∧ H' = rgH r) := by
  refine Spec.of (E := [(0, ptrR r.p), (1, .agg #[.string s, .int .i64 p]), (2, .int .i64 want), (3, .int .i64 e)]) Try.func19 rfl (by kernel_rfl) Try.ntmps19 rfl rfl (fun w => ?_)
  refine WC_seq ?_
  refine WC_region ?_
  refine WL_do rfl rfl rfl (D_box (cs := [_, _]) rfl rfl rfl) ?_
  rintro _ _ ⟨b1, rfl, rfl⟩
  refine WL_val rfl rfl rfl (R_assign rfl rfl) ?_
  refine WL_nil ?_
  refine WQ_code ?_
  refine WC_seq ?_
  refine WC_region ?_
  refine WL_val rfl rfl rfl (R_move rfl rfl) ?_
  refine WL_val rfl rfl rfl (R_loadA (vs := [_, _]) rfl ag23 rfl (mmZ) rfl (atZ)) ?_
  refine WL_do rfl rfl rfl (D_call (rlook_ok hr s p) rfl rfl rfl rfl (pqZ)) ?_
  rintro _ _ ⟨_, ⟨rfl, rfl⟩, rfl⟩
  refine WL_val rfl rfl rfl (R_move rfl rfl) ?_
  refine WL_val rfl rfl rfl (R_extract rfl rfl rfl) ?_
  refine WL_val rfl rfl rfl (R_extract rfl rfl rfl) ?_
  refine WL_val rfl rfl rfl (R_assign rfl rfl) ?_
  refine WL_val rfl rfl rfl (R_assign rfl rfl) ?_
  refine WL_nil ?_
  refine WQ_code ?_
  refine WC_seq ?_
  refine WC_region ?_
  refine WL_val rfl rfl rfl (R_move rfl rfl) ?_
  refine WL_val rfl rfl rfl (R_move rfl rfl) ?_
  refine WL_val rfl rfl rfl (R_eql rfl rfl rfl) ?_
  refine WL_val rfl rfl rfl (R_move rfl rfl) ?_
  refine WL_splitD (s := 20) rfl (fun c1 => ?_) (fun c1 => ?_)
  · have hg9 := c1
    refine WL_val rfl rfl rfl (R_move rfl rfl) ?_
    refine WL_val rfl rfl rfl (R_move rfl rfl) ?_
    refine WL_val rfl rfl rfl (R_eql rfl rfl rfl) ?_
    refine WL_val rfl rfl rfl (R_pickT rfl rfl rfl) ?_
    refine WL_val rfl rfl rfl (R_assign rfl rfl) ?_
    refine WL_nil ?_
    refine WQ_code ?_
    refine WC_ret ?_
    refine WQ_ret rfl rfl (.cons (.tmp rfl) .nil) rfl (by
        first | exact ⟨congrArg Value.bool (decide_eq_decide.2 ⟨fun h => ⟨hg9, h⟩, fun h => h.2⟩), rfl⟩ | exact ⟨congrArg Value.bool (decide_eq_false fun h => hg9 h.1).symm, rfl⟩) (pqZ)
  · have hg9 := c1
    refine WL_skip rfl rfl rfl ?_
    refine WL_skip rfl rfl rfl ?_
    refine WL_skip rfl rfl rfl ?_
    refine WL_val rfl rfl rfl (R_pickF rfl rfl rfl) ?_
    refine WL_val rfl rfl rfl (R_assign rfl rfl) ?_
    refine WL_nil ?_
    refine WQ_code ?_
    refine WC_ret ?_
    refine WQ_ret rfl rfl (.cons (.tmp rfl) .nil) rfl (by
        first | exact ⟨congrArg Value.bool (decide_eq_decide.2 ⟨fun h => ⟨hg9, h⟩, fun h => h.2⟩), rfl⟩ | exact ⟨congrArg Value.bool (decide_eq_false fun h => hg9 h.1).symm, rfl⟩) (pqZ)
theorem few_ok (T : List RA) (oa : Option Addr) (c : Nat) (ent : Ent) (ha : Arg oa ent 4 encRA T) (hb : T.length ≤ 9223372036854775807) (most : Int) : Spec Try.prog 15 [.slice oa T.length c, .int .i64 most] [ent] (fun x H' => ∃ b : Bool, x = .bool b ∧ (b = true → (T.length : Int) ≤ most) ∧ H' = [ent]) := by
  refine Spec.of (E := [(0, .slice oa T.length c), (1, .int .i64 most)]) Try.func15 rfl (by kernel_rfl) Try.ntmps15 rfl rfl (fun w => ?_)
  refine WC_seq ?_
  refine WC_region ?_
  refine WL_val rfl rfl rfl (R_assign rfl rfl) ?_
  refine WL_nil ?_
  refine WQ_code ?_
  refine WC_seq ?_
  refine WC_seq ?_
  refine WC_region ?_
  refine WL_val rfl rfl rfl (R_assign rfl rfl) ?_
  refine WL_nil ?_
  refine WQ_code ?_
  refine WC_block ?_
  refine WC_loopF (G := Nat) [4, 5, 6, 7, 8, 9, 10, 11, 12, 13, 14, 15, 16, 17, 18, 19, 20, 21, 22, 23, 24] (fun y => y ≤ T.length) (fun y => [(5, .int .i64 (y : Int))]) (fun y => []) (fun y => T.length - y) (0) (Nat.zero_le _) leZ (pqZ) ?_
  rintro y hy
  refine WC_seq ?_
  refine WC_seq ?_
  refine WC_region ?_
  refine WL_val rfl rfl rfl (R_move rfl rfl) ?_
  refine WL_val rfl rfl rfl (R_move rfl rfl) ?_
  refine WL_val rfl rfl rfl (R_len rfl Try.underlying37 rfl) ?_
  refine WL_val rfl rfl rfl (R_lss rfl rfl rfl) ?_
  refine WL_val rfl rfl rfl (R_move rfl rfl) ?_
  refine WL_splitD (s := 10) rfl (fun c1 => ?_) (fun c1 => ?_)
  · refine WL_val rfl rfl rfl (R_move rfl rfl) ?_
    refine WL_val rfl rfl rfl (R_move rfl rfl) ?_
    refine WL_val rfl rfl rfl (R_lss rfl rfl rfl) ?_
    refine WL_val rfl rfl rfl (R_pickT rfl rfl rfl) ?_
    refine WL_nil ?_
    refine WQ_code ?_
    refine WC_dec rfl (fun c2 => ?_) (fun c2 => ?_)
    · refine WC_skip ?_
      refine WQ_code ?_
      refine WC_seq ?_
      refine WC_block ?_
      refine WC_seq ?_
      refine WC_region ?_
      obtain ⟨a9, ha9⟩ := getE (T := T) (i := y) (by omega)
      obtain ⟨lb, lk, lcs, le, lfr, rfl, rfl, hat⟩ := ha.some (by omega)
      refine WL_val rfl rfl rfl (R_move rfl rfl) ?_
      refine WL_val rfl rfl rfl (R_move rfl rfl) ?_
      refine WL_val rfl rfl rfl (R_indexAddrN rfl Try.underlying37 Try.sizeOf41 rfl rfl (by omega)) ?_
      refine WL_val rfl rfl rfl (R_fieldAddr rfl fa41_1 rfl) ?_
      refine WL_val rfl rfl rfl (R_fieldAddr rfl fa23_0 rfl) ?_
      refine WL_val rfl rfl rfl (R_loadG (v := .string a9.s) rfl sc9 rfl mmZ (hat y a9 ha9 1 _ rfl)) ?_
      refine WL_val rfl rfl rfl (R_lenStr rfl Try.underlying9 rfl) ?_
      refine WL_val rfl rfl rfl (R_gtr rfl rfl rfl) ?_
      refine WL_nil ?_
      refine WQ_code ?_
      refine WC_dec rfl (fun c3 => ?_) (fun c3 => ?_)
      · refine WC_seq ?_
        refine WC_region ?_
        refine WL_val rfl rfl rfl (R_assign rfl rfl) ?_
        refine WL_nil ?_
        refine WQ_code ?_
        refine WC_ret ?_
        refine WQ_ret rfl rfl (.cons (.tmp rfl) .nil) rfl (by
            first | exact ⟨false, rfl, fun h => (by cases h), rfl⟩ | exact ⟨_, rfl, fun h => of_decide_eq_true h, rfl⟩) (pqZ)
      · refine WC_skip ?_
        refine WQ_code ?_
        refine WC_region ?_
        refine WL_val rfl rfl rfl (R_move rfl rfl) ?_
        refine WL_val rfl rfl rfl (R_add rfl rfl rfl (by omega)) ?_
        refine WL_val rfl rfl rfl (R_assign rfl rfl) ?_
        refine WL_nil ?_
        refine WQ_nextF (gg := y) (y + 1) (by omega) (by omega) leZ (psZ) rfl (pqZ)
    · refine WC_exit ?_
      refine WQ_code ?_
      refine WC_seq ?_
      refine WC_region ?_
      refine WL_val rfl rfl rfl (R_move rfl rfl) ?_
      refine WL_val rfl rfl rfl (R_len rfl Try.underlying37 rfl) ?_
      refine WL_val rfl rfl rfl (R_move rfl rfl) ?_
      refine WL_val rfl rfl rfl (R_leq rfl rfl rfl) ?_
      refine WL_val rfl rfl rfl (R_assign rfl rfl) ?_
      refine WL_nil ?_
      refine WQ_code ?_
      refine WC_ret ?_
      refine WQ_ret rfl rfl (.cons (.tmp rfl) .nil) rfl (by
          first | exact ⟨false, rfl, fun h => (by cases h), rfl⟩ | exact ⟨_, rfl, fun h => of_decide_eq_true h, rfl⟩) (pqZ)
  · refine WL_skip rfl rfl rfl ?_
    refine WL_skip rfl rfl rfl ?_
    refine WL_skip rfl rfl rfl ?_
    refine WL_val rfl rfl rfl (R_pickF rfl rfl rfl) ?_
    refine WL_nil ?_
    refine WQ_code ?_
    refine WC_F rfl ?_
    refine WC_exit ?_
    refine WQ_code ?_
    refine WC_seq ?_
    refine WC_region ?_
    refine WL_val rfl rfl rfl (R_move rfl rfl) ?_
    refine WL_val rfl rfl rfl (R_len rfl Try.underlying37 rfl) ?_
    refine WL_val rfl rfl rfl (R_move rfl rfl) ?_
    refine WL_val rfl rfl rfl (R_leq rfl rfl rfl) ?_
    refine WL_val rfl rfl rfl (R_assign rfl rfl) ?_
    refine WL_nil ?_
    refine WQ_code ?_
    refine WC_ret ?_
    refine WQ_ret rfl rfl (.cons (.tmp rfl) .nil) rfl (by
        first | exact ⟨false, rfl, fun h => (by cases h), rfl⟩ | exact ⟨_, rfl, fun h => of_decide_eq_true h, rfl⟩) (pqZ)

end Go.Proofs.Ytiomimjjdbijmaa
