/-
  Chapter 46 (pool), part PoolE: contracts of functions that the laws call, each for the heap it names.
-/
import Derived.Test.YteofigbgdbpjgaaRows
import Derived.Test.YteofigbgdbpjgaaZB
import Derived.Test.YteofigbgdbpjgaaSLMapJ
import Derived.Test.YteofigbgdbpjgaaSLScope
import Derived.Test.YteofigbgdbpjgaaTab
import Derived.Test.YteofigbgdbpjgaaPoolD
set_option linter.unusedVariables false
set_option maxRecDepth 20000
set_option maxHeartbeats 1000000
namespace Go.Proofs.Yteofigbgdbpjgaa


theorem pin_ok {m : PM} {s : PS} (h : PIs m s) (hE : s.E.length ≤ 10000) (c st : Int) (now : Nat) : Spec Try.prog 26 [ptrP m.p, .int .i64 c, .int .i64 st, .int .u64 (now : Int)] [poP m s] (fun r H' => r = .int .i64 (s.inE c st now) ∧ H' = [poP m s]) := by
  refine Spec.of (E := [(0, ptrP m.p), (1, .int .i64 c), (2, .int .i64 st), (3, .int .u64 (now : Int))]) Try.func26 rfl (by kernel_rfl) Try.ntmps26 rfl rfl (fun w => ?_)
  refine WC_seq ?_
  refine WC_region ?_
  refine WL_val rfl rfl rfl (R_assign rfl rfl) ?_
  refine WL_nil ?_
  refine WQ_code ?_
  refine WC_seq ?_
  refine WC_region ?_
  refine WL_val rfl rfl rfl (R_move rfl rfl) ?_
  refine WL_val rfl rfl rfl (R_move rfl rfl) ?_
  refine WL_val rfl rfl rfl (R_geq rfl rfl rfl) ?_
  refine WL_val rfl rfl rfl (R_move rfl rfl) ?_
  refine WL_do rfl rfl rfl (D_call (pmay_ok h (decide (0 ≤ c)) now) rfl rfl rfl rfl (pqZ)) ?_
  rintro _ _ ⟨_, ⟨rfl, rfl⟩, rfl⟩
  refine WL_val rfl rfl rfl (R_assign rfl rfl) ?_
  refine WL_nil ?_
  refine WQ_code ?_
  refine WC_seq ?_
  refine WC_block ?_
  refine WC_seq ?_
  refine WC_region ?_
  refine WL_val rfl rfl rfl (R_move rfl rfl) ?_
  refine WL_val rfl rfl rfl (R_neq rfl rfl rfl) ?_
  refine WL_val rfl rfl rfl (R_assign rfl rfl) ?_
  refine WL_nil ?_
  refine WQ_code ?_
  refine WC_dec rfl (fun c1 => ?_) (fun c1 => ?_)
  · have hm := c1
    refine WC_seq ?_
    refine WC_region ?_
    refine WL_val rfl rfl rfl (R_move rfl rfl) ?_
    refine WL_val rfl rfl rfl (R_assign rfl rfl) ?_
    refine WL_nil ?_
    refine WQ_code ?_
    refine WC_ret ?_
    refine WQ_ret rfl rfl (.cons (.tmp rfl) .nil) rfl (by
        first | exact ⟨congrArg (Value.int .i64) (inE_may hm).symm, rfl⟩ | exact ⟨congrArg (Value.int .i64) (inE_none hm (.inl (by omega))).symm, rfl⟩ | exact ⟨congrArg (Value.int .i64) (inE_none hm (.inr (by rw [Int.toNat_natCast, hx]; simpa using hc))).symm, rfl⟩ | exact ⟨congrArg (Value.int .i64) (inE_ok hm (by rw [Int.toNat_natCast, hx]; simp only [Option.map_some, Option.some.injEq, ne_eq]; omega)).symm, rfl⟩) (pqZ)
  · have hm : s.may (decide (0 ≤ c)) now = 0 := Decidable.byContradiction c1
    obtain ⟨k, rfl⟩ : ∃ k : Nat, c = (k : Int) := ⟨c.toNat, by have := of_decide_eq_true (may_zero hm).1; omega⟩
    refine WC_seq ?_
    refine WC_region ?_
    refine WL_val rfl rfl rfl (R_move rfl rfl) ?_
    refine WL_val rfl rfl rfl (R_geq rfl rfl rfl) ?_
    refine WL_val rfl rfl rfl (R_move rfl rfl) ?_
    refine WL_splitD (s := 22) rfl (fun c2 => ?_) (fun c2 => ?_)
    · have hg := c2
      refine WL_skip rfl rfl rfl ?_
      refine WL_skip rfl rfl rfl ?_
      refine WL_skip rfl rfl rfl ?_
      refine WL_skip rfl rfl rfl ?_
      refine WL_skip rfl rfl rfl ?_
      refine WL_skip rfl rfl rfl ?_
      refine WL_skip rfl rfl rfl ?_
      refine WL_skip rfl rfl rfl ?_
      refine WL_skip rfl rfl rfl ?_
      refine WL_val rfl rfl rfl (R_pickT rfl rfl rfl) ?_
      refine WL_val rfl rfl rfl (R_assign rfl rfl) ?_
      refine WL_nil ?_
      refine WQ_code ?_
      refine WC_T rfl ?_
      refine WC_seq ?_
      refine WC_region ?_
      refine WL_val rfl rfl rfl (R_assign rfl rfl) ?_
      refine WL_nil ?_
      refine WQ_code ?_
      refine WC_ret ?_
      refine WQ_ret rfl rfl (.cons (.tmp rfl) .nil) rfl (by
          first | exact ⟨congrArg (Value.int .i64) (inE_may hm).symm, rfl⟩ | exact ⟨congrArg (Value.int .i64) (inE_none hm (.inl (by omega))).symm, rfl⟩ | exact ⟨congrArg (Value.int .i64) (inE_none hm (.inr (by rw [Int.toNat_natCast, hx]; simpa using hc))).symm, rfl⟩ | exact ⟨congrArg (Value.int .i64) (inE_ok hm (by rw [Int.toNat_natCast, hx]; simp only [Option.map_some, Option.some.injEq, ne_eq]; omega)).symm, rfl⟩) (pqZ)
    · have hg := c2
      obtain ⟨x, hx⟩ := getE (T := s.C) (i := k) (by rw [h.cl]; omega)
      refine WL_val rfl rfl rfl (R_move rfl rfl) ?_
      refine WL_val rfl rfl rfl (R_move rfl rfl) ?_
      refine WL_val rfl rfl rfl (R_nilCheck rfl rfl) ?_
      refine WL_val rfl rfl rfl (R_fieldAddr rfl fa71_4 rfl) ?_
      refine WL_val rfl rfl rfl (R_indexAddrAN rfl Try.underlying67 Try.sizeOf66 rfl rfl (by omega)) ?_
      refine WL_val rfl rfl rfl (R_fieldAddr rfl fa66_0 rfl) ?_
      refine WL_val rfl rfl rfl (R_load (v := .int .i64 x.st) rfl sc64 rfl (mmZ) (pc_get (A := pcH s) rfl hx (j := 0) (by omega))) ?_
      refine WL_val rfl rfl rfl (R_move rfl rfl) ?_
      refine WL_val rfl rfl rfl (R_neq rfl rfl rfl) ?_
      refine WL_val rfl rfl rfl (R_pickF rfl rfl rfl) ?_
      refine WL_val rfl rfl rfl (R_assign rfl rfl) ?_
      refine WL_nil ?_
      refine WQ_code ?_
      refine WC_dec rfl (fun c3 => ?_) (fun c3 => ?_)
      · have hc := c3
        refine WC_seq ?_
        refine WC_region ?_
        refine WL_val rfl rfl rfl (R_assign rfl rfl) ?_
        refine WL_nil ?_
        refine WQ_code ?_
        refine WC_ret ?_
        refine WQ_ret rfl rfl (.cons (.tmp rfl) .nil) rfl (by
            first | exact ⟨congrArg (Value.int .i64) (inE_may hm).symm, rfl⟩ | exact ⟨congrArg (Value.int .i64) (inE_none hm (.inl (by omega))).symm, rfl⟩ | exact ⟨congrArg (Value.int .i64) (inE_none hm (.inr (by rw [Int.toNat_natCast, hx]; simpa using hc))).symm, rfl⟩ | exact ⟨congrArg (Value.int .i64) (inE_ok hm (by rw [Int.toNat_natCast, hx]; simp only [Option.map_some, Option.some.injEq, ne_eq]; omega)).symm, rfl⟩) (pqZ)
      · have hc := c3
        refine WC_skip ?_
        refine WQ_code ?_
        refine WC_seq ?_
        refine WC_region ?_
        refine WL_val rfl rfl rfl (R_move rfl rfl) ?_
        refine WL_do rfl rfl rfl (D_call (pfull_ok h hE) rfl rfl rfl rfl (pqZ)) ?_
        rintro _ _ ⟨_, ⟨rfl, rfl⟩, rfl⟩
        refine WL_val rfl rfl rfl (R_assign rfl rfl) ?_
        refine WL_nil ?_
        refine WQ_code ?_
        refine WC_ret ?_
        refine WQ_ret rfl rfl (.cons (.tmp rfl) .nil) rfl (by
            first | exact ⟨congrArg (Value.int .i64) (inE_may hm).symm, rfl⟩ | exact ⟨congrArg (Value.int .i64) (inE_none hm (.inl (by omega))).symm, rfl⟩ | exact ⟨congrArg (Value.int .i64) (inE_none hm (.inr (by rw [Int.toNat_natCast, hx]; simpa using hc))).symm, rfl⟩ | exact ⟨congrArg (Value.int .i64) (inE_ok hm (by rw [Int.toNat_natCast, hx]; simp only [Option.map_some, Option.some.injEq, ne_eq]; omega)).symm, rfl⟩) (pqZ)
theorem pdialed_ok {m : PM} {s : PS} (h : PIs m s) (hE : s.E.length ≤ 10000) (c : Int) (made : Bool) (now : Nat) (hb : now ≤ 18446744073709551615) : Spec Try.prog 10 [ptrP m.p, .int .i64 c, .bool made, .int .u64 (now : Int)] (poH m s) (fun r H' => ∃ m', r = .int .i64 (s.inE c 1 now) ∧ H' = poH m' (s.dialed c made now) ∧ m'.p = m.p ∧ PIs m' (s.dialed c made now)) := by
  refine Spec.of (E := [(0, ptrP m.p), (1, .int .i64 c), (2, .bool made), (3, .int .u64 (now : Int))]) Try.func10 rfl (by kernel_rfl) Try.ntmps10 rfl rfl (fun w => ?_)
  refine WC_seq ?_
  refine WC_region ?_
  refine WL_val rfl rfl rfl (R_assign rfl rfl) ?_
  refine WL_nil ?_
  refine WQ_code ?_
  refine WC_seq ?_
  refine WC_seq ?_
  refine WC_region ?_
  refine WL_val rfl rfl rfl (R_move rfl rfl) ?_
  refine WL_val rfl rfl rfl (R_move rfl rfl) ?_
  refine WL_val rfl rfl rfl (R_move rfl rfl) ?_
  refine WL_do rfl rfl rfl (D_call (pin_ok h hE c 1 now) rfl rfl rfl rfl (pqZ)) ?_
  rintro _ _ ⟨_, ⟨rfl, rfl⟩, rfl⟩
  refine WL_val rfl rfl rfl (R_assign rfl rfl) ?_
  refine WL_nil ?_
  refine WQ_code ?_
  refine WC_seq ?_
  refine WC_region ?_
  refine WL_val rfl rfl rfl (R_move rfl rfl) ?_
  refine WL_val rfl rfl rfl (R_neq rfl rfl rfl) ?_
  refine WL_nil ?_
  refine WQ_code ?_
  refine WC_dec rfl (fun c1 => ?_) (fun c1 => ?_)
  · have hm := c1
    refine WC_seq ?_
    refine WC_region ?_
    refine WL_val rfl rfl rfl (R_move rfl rfl) ?_
    refine WL_val rfl rfl rfl (R_assign rfl rfl) ?_
    refine WL_nil ?_
    refine WQ_code ?_
    refine WC_ret ?_
    refine WQ_ret rfl rfl (.cons (.tmp rfl) .nil) rfl (by
        exact ⟨m, rfl, by rw [dialed_no hm], rfl, by rw [dialed_no hm]; exact h⟩) (pqZ)
  · have hm : s.inE c 1 now = 0 := Decidable.byContradiction c1
    obtain ⟨k, x, rfl, hk, hx, hst, hle, hne⟩ := inE_zero hm
    refine WC_skip ?_
    refine WQ_code ?_
    refine WC_seq ?_
    refine WC_region ?_
    refine WL_val rfl rfl rfl (R_move rfl rfl) ?_
    refine WL_val rfl rfl rfl (R_move rfl rfl) ?_
    refine WL_val rfl rfl rfl (R_nilCheck rfl rfl) ?_
    refine WL_val rfl rfl rfl (R_fieldAddr rfl fa71_3 rfl) ?_
    refine WL_do0 rfl rfl (D_store (vs := [_]) rfl Try.sizeOf28 rfl rfl rfl rfl rfl (plZ) (by exact pc_nowr m s)) ?_
    rintro _ _ rfl
    rw [pc_now]
    have h0 := h.at_ (now := now) hle (by omega)
    refine WL_nil ?_
    refine WQ_code ?_
    refine WC_seq ?_
    refine WC_seq ?_
    refine WC_region ?_
    refine WL_val rfl rfl rfl (R_move rfl rfl) ?_
    refine WL_nil ?_
    refine WQ_code ?_
    refine WC_if rfl (fun c2 => ?_) (fun c2 => ?_)
    · subst c2
      refine WC_region ?_
      refine WL_val rfl rfl rfl (R_move rfl rfl) ?_
      refine WL_val rfl rfl rfl (R_move rfl rfl) ?_
      refine WL_val rfl rfl rfl (R_build rfl zv66 pl66 rfl rfl) ?_
      refine WL_val rfl rfl rfl (R_nilCheck rfl rfl) ?_
      refine WL_val rfl rfl rfl (R_fieldAddr rfl fa71_4 rfl) ?_
      refine WL_val rfl rfl rfl (R_indexAddrAN rfl Try.underlying67 Try.sizeOf66 rfl rfl (by omega)) ?_
      refine WL_do0 rfl rfl (D_store (vs := [_, _, _]) rfl Try.sizeOf66 rfl rfl rfl rfl rfl (plZ) (by exact pc_room h.cl rfl (by omega))) ?_
      rintro _ _ rfl
      rw [show putAt _ _ [.int .i64 (2), .int .i64 (0), .int .u64 (0)] = _ from pc_put (A := pcH _) rfl (y := ⟨2, 0, 0⟩) (show (s.at_ now).C[k]? = some x from hx) rfl]
      refine WL_nil ?_
      refine WQ_code ?_
      refine WC_seq ?_
      refine WC_region ?_
      refine WL_val rfl rfl rfl (R_assign rfl rfl) ?_
      refine WL_nil ?_
      refine WQ_code ?_
      refine WC_ret ?_
      refine WQ_ret rfl rfl (.cons (.tmp rfl) .nil) rfl (by
          exact ⟨m, congrArg (Value.int .i64) hm.symm, by rw [dialed_made hm], rfl, by rw [dialed_made hm]; exact h0.set (Nat.zero_le _) (⟨by decide, by decide⟩ : (0 : Int) ≤ 2 ∧ (2 : Int) ≤ 3)⟩) (pqZ)
    · subst c2
      refine WC_region ?_
      refine WL_val rfl rfl rfl (R_move rfl rfl) ?_
      refine WL_val rfl rfl rfl (R_move rfl rfl) ?_
      refine WL_do rfl rfl rfl (D_call (plose_ok h0 k (by omega) (by show s.E.length ≤ _; omega)) rfl rfl rfl rfl (pqZ)) ?_
      rintro _ _ ⟨_, ⟨m1, rfl, rfl, hp1, h1⟩, rfl⟩
      refine WL_nil ?_
      refine WQ_code ?_
      refine WC_seq ?_
      refine WC_region ?_
      refine WL_val rfl rfl rfl (R_assign rfl rfl) ?_
      refine WL_nil ?_
      refine WQ_code ?_
      refine WC_ret ?_
      refine WQ_ret rfl rfl (.cons (.tmp rfl) .nil) rfl (by
          exact ⟨m1, congrArg (Value.int .i64) hm.symm, by rw [dialed_lost hm], hp1, by rw [dialed_lost hm]; exact h1⟩) (pqZ)

end Go.Proofs.Yteofigbgdbpjgaa
