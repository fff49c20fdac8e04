/-
  Chapter 47 (backoff), part Full: contracts of functions that the laws call, each for the heap it names.
-/
import Derived.Test.YtafjfllcebdjdaaRows
import Derived.Test.YtafjfllcebdjdaaSLMarks
import Derived.Test.YtafjfllcebdjdaaSLInt
import Derived.Test.YtafjfllcebdjdaaSLBirth
import Derived.Test.YtafjfllcebdjdaaTab
import Derived.Test.YtafjfllcebdjdaaPlan
import Derived.Test.YtafjfllcebdjdaaNoise
set_option linter.unusedVariables false
set_option maxRecDepth 20000
namespace Go.Proofs.Ytafjfllcebdjdaa


/-- The full delays of a valid plan; the delay before try k. -/
def fullN (p : Plan) : Nat → Nat
  | 0 => p.base
  | n + 1 => min p.most (fullN p n * p.num.toNat / p.den.toNat)
def lessN (p : Plan) (n : Nat) : Nat := fullN p n * p.jit.toNat * nz p.seed (n + 1) / 6553600
def delayN (p : Plan) : Nat → Nat
  | 0 => 0
  | n + 1 => fullN p n - lessN p n
theorem fullN_le {p : Plan} (hp : OkP p) : ∀ n, fullN p n ≤ 4294967296
  | 0 => Nat.le_trans hp.2.1 hp.2.2.1
  | n + 1 => by
    have := hp.2.2.1
    simp only [fullN]; omega
theorem full_num {p : Plan} (hp : OkP p) (n : Nat) : fullN p n * p.num.toNat ≤ 4294967296 * 1000 :=
  Nat.mul_le_mul (fullN_le hp n) (by obtain ⟨h1, h2, h3, h4, h5, h6, _⟩ := hp; omega)
theorem full_jit {p : Plan} (hp : OkP p) (n : Nat) : fullN p n * p.jit.toNat ≤ 4294967296 * 100 :=
  Nat.mul_le_mul (fullN_le hp n) (by obtain ⟨h1, h2, h3, h4, h5, h6, h7, h8, h9, h10⟩ := hp; omega)
theorem full_nz {p : Plan} (hp : OkP p) (n : Nat) : fullN p n * p.jit.toNat * nz p.seed (n + 1) ≤ 4294967296 * 100 * 65536 :=
  Nat.mul_le_mul (full_jit hp n) (Nat.le_of_lt (nz_lt _ _))
theorem lessN_le {p : Plan} (hp : OkP p) (n : Nat) : lessN p n ≤ fullN p n := by
  refine Nat.div_le_of_le_mul ?_
  have h1 : p.jit.toNat * nz p.seed (n + 1) ≤ 100 * 65536 := Nat.mul_le_mul (by obtain ⟨h1, h2, h3, h4, h5, h6, h7, h8, h9, h10⟩ := hp; omega) (Nat.le_of_lt (nz_lt _ _))
  rw [Nat.mul_assoc, Nat.mul_comm]
  exact Nat.mul_le_mul_right _ h1
theorem delayN_le {p : Plan} (hp : OkP p) : ∀ k, delayN p k ≤ 4294967296
  | 0 => Nat.zero_le _
  | n + 1 => Nat.le_trans (Nat.sub_le _ _) (fullN_le hp n)
theorem full_ok (p : Plan) (hp : OkP p) : ∀ n, n < 100 → Spec Try.prog 30 [.agg (pl p).toArray, .int .i64 ((n + 1 : Nat) : Int)] [] (fun r H' => r = .int .u64 (fullN p n : Nat) ∧ H' = [])
  | 0, hn => by
    refine Spec.of (E := [(0, .agg (pl p).toArray), (1, .int .i64 ((0 + 1 : Nat) : Int))]) Try.func30 rfl (by kernel_rfl) Try.ntmps30 rfl rfl (fun w => ?_)
    refine WC_seq ?_
    refine WC_region ?_
    refine WL_do rfl rfl rfl (D_box (cs := [_, _, _, _, _, _, _]) rfl rfl rfl) ?_
    rintro _ _ ⟨b1, rfl, rfl⟩
    refine WL_val rfl rfl rfl (R_assign rfl rfl) ?_
    refine WL_nil ?_
    refine WQ_code ?_
    refine WC_seq ?_
    refine WC_seq ?_
    refine WC_region ?_
    refine WL_val rfl rfl rfl (R_move rfl rfl) ?_
    refine WL_val rfl rfl rfl (R_eql rfl rfl rfl) ?_
    refine WL_nil ?_
    refine WQ_code ?_
    refine WC_dT rfl (by omega) ?_
    refine WC_seq ?_
    refine WC_region ?_
    refine WL_val rfl rfl rfl (R_fieldAddr rfl fa26_0 rfl) ?_
    refine WL_val rfl rfl rfl (R_load rfl sc23 rfl (by repeat (first | exact List.Mem.head _ | refine List.Mem.tail _ ?_)) rfl) ?_
    refine WL_val rfl rfl rfl (R_assign rfl rfl) ?_
    refine WL_nil ?_
    refine WQ_code ?_
    refine WC_ret ?_
    refine WQ_ret rfl rfl (.cons (.tmp rfl) .nil) rfl (by
        exact ⟨rfl, rfl⟩) (by repeat (first | exact Pulls.nil | exact Pulls.all | (apply Pulls.cons; (repeat (first | exact Pull.head | apply Pull.tail))) | apply Pulls.skip))
  | n + 1, hn => by
    have hq := hp
    obtain ⟨q1, q2, q3, q4, q5, q6, q7, q8, q9, q10⟩ := hq
    have hb := full_num hp n
    have hfl := fullN_le hp n
    refine Spec.of (E := [(0, .agg (pl p).toArray), (1, .int .i64 ((n + 1 + 1 : Nat) : Int))]) Try.func30 rfl (by kernel_rfl) Try.ntmps30 rfl rfl (fun w => ?_)
    refine WC_seq ?_
    refine WC_region ?_
    refine WL_do rfl rfl rfl (D_box (cs := [_, _, _, _, _, _, _]) rfl rfl rfl) ?_
    rintro _ _ ⟨b1, rfl, rfl⟩
    refine WL_val rfl rfl rfl (R_assign rfl rfl) ?_
    refine WL_nil ?_
    refine WQ_code ?_
    refine WC_seq ?_
    refine WC_seq ?_
    refine WC_region ?_
    refine WL_val rfl rfl rfl (R_move rfl rfl) ?_
    refine WL_val rfl rfl rfl (R_eql rfl rfl rfl) ?_
    refine WL_nil ?_
    refine WQ_code ?_
    refine WC_dF rfl (by omega) ?_
    refine WC_skip ?_
    refine WQ_code ?_
    refine WC_seq ?_
    refine WC_draw _ [(0, true), (1, true), (2, true), (4, true), (5, true), (6, true), (8, true), (9, true), (10, true), (3, false), (7, true), (11, true), (12, true)] followsMixed rfl rfl (by kernel_rfl) .all ?_
    refine WM_val rfl rfl rfl rfl (R_loadA (vs := [_, _, _, _, _, _, _]) rfl ag26 rfl (by repeat (first | exact List.Mem.head _ | refine List.Mem.tail _ ?_)) rfl (by repeat (first | exact At.nil | refine At.cons ?_ | refine At.succ ?_))) ?_
    refine WM_val rfl rfl rfl rfl (R_move rfl rfl) ?_
    refine WM_val rfl rfl rfl rfl (R_subR (r := ((n + 1 : Nat) : Int)) rfl rfl rfl (by rw [IntWalk.i64_in _ (by omega)]; omega)) ?_
    refine WM_val rfl rfl rfl rfl (R_fieldAddr rfl fa26_2 rfl) ?_
    refine WM_val rfl rfl rfl rfl (R_load rfl sc3 rfl (by repeat (first | exact List.Mem.head _ | refine List.Mem.tail _ ?_)) rfl) ?_
    refine WM_val rfl rfl rfl rfl (R_conv (r := ((p.num.toNat : Nat) : Int)) rfl Try.underlying3 Try.underlying22 rfl (by rw [w64 (by omega)]; omega)) ?_
    refine WM_val rfl rfl rfl rfl (R_fieldAddr rfl fa26_3 rfl) ?_
    refine WM_val rfl rfl rfl rfl (R_load rfl sc3 rfl (by repeat (first | exact List.Mem.head _ | refine List.Mem.tail _ ?_)) rfl) ?_
    refine WM_val rfl rfl rfl rfl (R_conv (r := ((p.den.toNat : Nat) : Int)) rfl Try.underlying3 Try.underlying22 rfl (by rw [w64 (by omega)]; omega)) ?_
    refine WM_do rfl rfl rfl rfl (D_call (full_ok p hp n (by omega)) rfl rfl rfl rfl (by repeat (first | exact Pulls.nil | exact Pulls.all | (apply Pulls.cons; (repeat (first | exact Pull.head | apply Pull.tail))) | apply Pulls.skip))) ?_
    rintro _ _ ⟨_, ⟨rfl, rfl⟩, rfl⟩
    refine ⟨⟨_, by repeat (first | exact Pulls.nil | exact Pulls.all | (apply Pulls.cons; (repeat (first | exact Pull.head | apply Pull.tail))) | apply Pulls.skip)⟩, ?_⟩
    refine WM_val rfl rfl rfl rfl (R_mulR (r := ((fullN p n * p.num.toNat : Nat) : Int)) rfl rfl rfl (by rw [← Int.natCast_mul]; exact w64 ⟨by omega, by omega⟩)) ?_
    refine WM_val rfl rfl rfl rfl (R_quoR (r := ((fullN p n * p.num.toNat / p.den.toNat : Nat) : Int)) rfl rfl rfl (by omega) (quoN (by omega) (by omega))) ?_
    refine WM_val rfl rfl rfl rfl (R_assign rfl rfl) ?_
    refine WM_nil ?_
    refine WQ_code ?_
    refine WC_seq ?_
    refine WC_seq ?_
    refine WC_region ?_
    refine WL_val rfl rfl rfl (R_move rfl rfl) ?_
    refine WL_val rfl rfl rfl (R_fieldAddr rfl fa26_1 rfl) ?_
    refine WL_val rfl rfl rfl (R_load rfl sc23 rfl (by repeat (first | exact List.Mem.head _ | refine List.Mem.tail _ ?_)) rfl) ?_
    refine WL_val rfl rfl rfl (R_gtr rfl rfl rfl) ?_
    refine WL_nil ?_
    refine WQ_code ?_
    refine WC_dec rfl (fun c1 => ?_) (fun c1 => ?_)
    · refine WC_seq ?_
      refine WC_region ?_
      refine WL_val rfl rfl rfl (R_fieldAddr rfl fa26_1 rfl) ?_
      refine WL_val rfl rfl rfl (R_load rfl sc23 rfl (by repeat (first | exact List.Mem.head _ | refine List.Mem.tail _ ?_)) rfl) ?_
      refine WL_val rfl rfl rfl (R_assign rfl rfl) ?_
      refine WL_nil ?_
      refine WQ_code ?_
      refine WC_ret ?_
      refine WQ_ret rfl rfl (.cons (.tmp rfl) .nil) rfl (by
          exact ⟨congrArg (Value.int .u64) (by simp only [fullN]; omega), rfl⟩) (by repeat (first | exact Pulls.nil | exact Pulls.all | (apply Pulls.cons; (repeat (first | exact Pull.head | apply Pull.tail))) | apply Pulls.skip))
    · refine WC_skip ?_
      refine WQ_code ?_
      refine WC_seq ?_
      refine WC_region ?_
      refine WL_val rfl rfl rfl (R_move rfl rfl) ?_
      refine WL_val rfl rfl rfl (R_assign rfl rfl) ?_
      refine WL_nil ?_
      refine WQ_code ?_
      refine WC_ret ?_
      refine WQ_ret rfl rfl (.cons (.tmp rfl) .nil) rfl (by
          exact ⟨congrArg (Value.int .u64) (by simp only [fullN]; omega), rfl⟩) (by repeat (first | exact Pulls.nil | exact Pulls.all | (apply Pulls.cons; (repeat (first | exact Pull.head | apply Pull.tail))) | apply Pulls.skip))
theorem delay_ok (p : Plan) (hp : OkP p) (hs : p.seed < 4294967296) (k : Nat) (hk : k < 100) : Spec Try.prog 13 [.agg (pl p).toArray, .int .i64 (k : Int)] [] (fun r H' => r = .int .u64 (delayN p k : Nat) ∧ H' = []) := by
  have hq := hp
  obtain ⟨q1, q2, q3, q4, q5, q6, q7, q8, q9, q10⟩ := hq
  refine Spec.of (E := [(0, .agg (pl p).toArray), (1, .int .i64 (k : Int))]) Try.func13 rfl (by kernel_rfl) Try.ntmps13 rfl rfl (fun w => ?_)
  refine WC_seq ?_
  refine WC_region ?_
  refine WL_do rfl rfl rfl (D_box (cs := [_, _, _, _, _, _, _]) rfl rfl rfl) ?_
  rintro _ _ ⟨b1, rfl, rfl⟩
  refine WL_val rfl rfl rfl (R_assign rfl rfl) ?_
  refine WL_nil ?_
  refine WQ_code ?_
  refine WC_seq ?_
  refine WC_seq ?_
  refine WC_region ?_
  refine WL_val rfl rfl rfl (R_move rfl rfl) ?_
  refine WL_val rfl rfl rfl (R_eql rfl rfl rfl) ?_
  refine WL_nil ?_
  refine WQ_code ?_
  refine WC_dec rfl (fun c1 => ?_) (fun c1 => ?_)
  · obtain rfl : k = 0 := by omega
    refine WC_seq ?_
    refine WC_region ?_
    refine WL_val rfl rfl rfl (R_assign rfl rfl) ?_
    refine WL_nil ?_
    refine WQ_code ?_
    refine WC_ret ?_
    refine WQ_ret rfl rfl (.cons (.tmp rfl) .nil) rfl (by
        exact ⟨rfl, rfl⟩) (by repeat (first | exact Pulls.nil | exact Pulls.all | (apply Pulls.cons; (repeat (first | exact Pull.head | apply Pull.tail))) | apply Pulls.skip))
  · obtain ⟨n, rfl⟩ : ∃ n, k = n + 1 := ⟨k - 1, by omega⟩
    have hfl := fullN_le hp n
    have hj := full_jit hp n
    have hz := full_nz hp n
    have hle := lessN_le hp n
    refine WC_skip ?_
    refine WQ_code ?_
    refine WC_seq ?_
    refine WC_region ?_
    refine WL_val rfl rfl rfl (R_loadA (vs := [_, _, _, _, _, _, _]) rfl ag26 rfl (by repeat (first | exact List.Mem.head _ | refine List.Mem.tail _ ?_)) rfl (by repeat (first | exact At.nil | refine At.cons ?_ | refine At.succ ?_))) ?_
    refine WL_val rfl rfl rfl (R_move rfl rfl) ?_
    refine WL_do rfl rfl rfl (D_call (full_ok p hp n (by omega)) rfl rfl rfl rfl (by repeat (first | exact Pulls.nil | exact Pulls.all | (apply Pulls.cons; (repeat (first | exact Pull.head | apply Pull.tail))) | apply Pulls.skip))) ?_
    rintro _ _ ⟨_, ⟨rfl, rfl⟩, rfl⟩
    refine WL_val rfl rfl rfl (R_assign rfl rfl) ?_
    refine WL_nil ?_
    refine WQ_code ?_
    refine WC_seq ?_
    refine WC_draw _ [(0, true), (1, true), (2, true), (3, true), (4, true), (5, true), (6, true), (7, true), (8, true), (9, false), (10, true), (11, true), (12, true), (13, true)] followsMixed rfl rfl (by kernel_rfl) .all ?_
    refine WM_val rfl rfl rfl rfl (R_move rfl rfl) ?_
    refine WM_val rfl rfl rfl rfl (R_move rfl rfl) ?_
    refine WM_val rfl rfl rfl rfl (R_fieldAddr rfl fa26_5 rfl) ?_
    refine WM_val rfl rfl rfl rfl (R_load rfl sc3 rfl (by repeat (first | exact List.Mem.head _ | refine List.Mem.tail _ ?_)) rfl) ?_
    refine WM_val rfl rfl rfl rfl (R_conv (r := ((p.jit.toNat : Nat) : Int)) rfl Try.underlying3 Try.underlying22 rfl (by rw [w64 (by omega)]; omega)) ?_
    refine WM_val rfl rfl rfl rfl (R_mulR (r := ((fullN p n * p.jit.toNat : Nat) : Int)) rfl rfl rfl (by rw [← Int.natCast_mul]; exact w64 ⟨by omega, by omega⟩)) ?_
    refine WM_val rfl rfl rfl rfl (R_fieldAddr rfl fa26_6 rfl) ?_
    refine WM_val rfl rfl rfl rfl (R_load rfl sc24 rfl (by repeat (first | exact List.Mem.head _ | refine List.Mem.tail _ ?_)) rfl) ?_
    refine WM_val rfl rfl rfl rfl (R_move rfl rfl) ?_
    refine WM_do rfl rfl rfl rfl (D_call (lnoise_ok p.seed (n + 1) hs (by omega)) rfl rfl rfl rfl (by repeat (first | exact Pulls.nil | exact Pulls.all | (apply Pulls.cons; (repeat (first | exact Pull.head | apply Pull.tail))) | apply Pulls.skip))) ?_
    rintro _ _ ⟨_, ⟨rfl, rfl⟩, rfl⟩
    refine ⟨⟨_, by repeat (first | exact Pulls.nil | exact Pulls.all | (apply Pulls.cons; (repeat (first | exact Pull.head | apply Pull.tail))) | apply Pulls.skip)⟩, ?_⟩
    refine WM_val rfl rfl rfl rfl (R_mulR (r := ((fullN p n * p.jit.toNat * nz p.seed (n + 1) : Nat) : Int)) rfl rfl rfl (by rw [← Int.natCast_mul]; exact w64 ⟨by omega, by omega⟩)) ?_
    refine WM_val rfl rfl rfl rfl (R_quoR (r := ((lessN p n : Nat) : Int)) rfl rfl rfl (by omega) (quoN (b := 6553600) (by omega) (by omega))) ?_
    refine WM_val rfl rfl rfl rfl (R_subR (r := ((delayN p (n + 1) : Nat) : Int)) rfl rfl rfl (by rw [w64 ⟨by omega, by omega⟩]; simp only [delayN]; omega)) ?_
    refine WM_val rfl rfl rfl rfl (R_assign rfl rfl) ?_
    refine WM_nil ?_
    refine WQ_code ?_
    refine WC_ret ?_
    refine WQ_ret rfl rfl (.cons (.tmp rfl) .nil) rfl (by
        exact ⟨rfl, rfl⟩) (by repeat (first | exact Pulls.nil | exact Pulls.all | (apply Pulls.cons; (repeat (first | exact Pull.head | apply Pull.tail))) | apply Pulls.skip))
/-- The sum of two times, saturating. -/
def satN (a b : Nat) : Nat := min (a + b) 18446744073709551615
theorem plus_ok (a b : Nat) (ha : a ≤ 18446744073709551615) (hb : b ≤ 18446744073709551615) : Spec Try.prog 15 [.int .u64 (a : Int), .int .u64 (b : Int)] [] (fun r H' => r = .int .u64 (satN a b : Nat) ∧ H' = []) := by
  refine Spec.of (E := [(0, .int .u64 (a : Int)), (1, .int .u64 (b : Int))]) Try.func15 rfl (by kernel_rfl) Try.ntmps15 rfl rfl (fun w => ?_)
  refine WC_seq ?_
  refine WC_region ?_
  refine WL_val rfl rfl rfl (R_assign rfl rfl) ?_
  refine WL_nil ?_
  refine WQ_code ?_
  refine WC_seq ?_
  refine WC_seq ?_
  refine WC_region ?_
  refine WL_val rfl rfl rfl (R_move rfl rfl) ?_
  refine WL_val rfl rfl rfl (R_subR (r := (18446744073709551615 - a : Int)) rfl rfl rfl (w64 ⟨by omega, by omega⟩)) ?_
  refine WL_val rfl rfl rfl (R_move rfl rfl) ?_
  refine WL_val rfl rfl rfl (R_lss rfl rfl rfl) ?_
  refine WL_nil ?_
  refine WQ_code ?_
  refine WC_dec rfl (fun c1 => ?_) (fun c1 => ?_)
  · refine WC_seq ?_
    refine WC_region ?_
    refine WL_val rfl rfl rfl (R_assign rfl rfl) ?_
    refine WL_nil ?_
    refine WQ_code ?_
    refine WC_ret ?_
    refine WQ_ret rfl rfl (.cons (.tmp rfl) .nil) rfl (by
        exact ⟨congrArg (Value.int .u64) (by first | rfl | (rw [satN]; omega)), rfl⟩) (by repeat (first | exact Pulls.nil | exact Pulls.all | (apply Pulls.cons; (repeat (first | exact Pull.head | apply Pull.tail))) | apply Pulls.skip))
  · refine WC_skip ?_
    refine WQ_code ?_
    refine WC_seq ?_
    refine WC_region ?_
    refine WL_val rfl rfl rfl (R_move rfl rfl) ?_
    refine WL_val rfl rfl rfl (R_move rfl rfl) ?_
    refine WL_val rfl rfl rfl (R_addR (r := ((satN a b : Nat) : Int)) rfl rfl rfl (by rw [satN, w64 ⟨by omega, by omega⟩]; omega)) ?_
    refine WL_val rfl rfl rfl (R_assign rfl rfl) ?_
    refine WL_nil ?_
    refine WQ_code ?_
    refine WC_ret ?_
    refine WQ_ret rfl rfl (.cons (.tmp rfl) .nil) rfl (by
        exact ⟨congrArg (Value.int .u64) (by first | rfl | (rw [satN]; omega)), rfl⟩) (by repeat (first | exact Pulls.nil | exact Pulls.all | (apply Pulls.cons; (repeat (first | exact Pull.head | apply Pull.tail))) | apply Pulls.skip))
theorem vadd_ok (a b : Nat) (ha : a ≤ 18446744073709551615) (hb : b ≤ 18446744073709551615) : Spec Try.prog 32 [.int .u64 (a : Int), .int .u64 (b : Int)] [] (fun r H' => r = .int .u64 (satN a b : Nat) ∧ H' = []) := by
  refine Spec.of (E := [(0, .int .u64 (a : Int)), (1, .int .u64 (b : Int))]) Try.func32 rfl (by kernel_rfl) Try.ntmps32 rfl rfl (fun w => ?_)
  refine WC_seq ?_
  refine WC_region ?_
  refine WL_val rfl rfl rfl (R_assign rfl rfl) ?_
  refine WL_nil ?_
  refine WQ_code ?_
  refine WC_seq ?_
  refine WC_seq ?_
  refine WC_region ?_
  refine WL_val rfl rfl rfl (R_move rfl rfl) ?_
  refine WL_val rfl rfl rfl (R_subR (r := (18446744073709551615 - a : Int)) rfl rfl rfl (w64 ⟨by omega, by omega⟩)) ?_
  refine WL_val rfl rfl rfl (R_move rfl rfl) ?_
  refine WL_val rfl rfl rfl (R_leq rfl rfl rfl) ?_
  refine WL_nil ?_
  refine WQ_code ?_
  refine WC_dec rfl (fun c1 => ?_) (fun c1 => ?_)
  · refine WC_seq ?_
    refine WC_region ?_
    refine WL_val rfl rfl rfl (R_assign rfl rfl) ?_
    refine WL_nil ?_
    refine WQ_code ?_
    refine WC_ret ?_
    refine WQ_ret rfl rfl (.cons (.tmp rfl) .nil) rfl (by
        exact ⟨congrArg (Value.int .u64) (by first | rfl | (rw [satN]; omega)), rfl⟩) (by repeat (first | exact Pulls.nil | exact Pulls.all | (apply Pulls.cons; (repeat (first | exact Pull.head | apply Pull.tail))) | apply Pulls.skip))
  · refine WC_skip ?_
    refine WQ_code ?_
    refine WC_seq ?_
    refine WC_region ?_
    refine WL_val rfl rfl rfl (R_move rfl rfl) ?_
    refine WL_val rfl rfl rfl (R_move rfl rfl) ?_
    refine WL_val rfl rfl rfl (R_addR (r := ((satN a b : Nat) : Int)) rfl rfl rfl (by rw [satN, w64 ⟨by omega, by omega⟩]; omega)) ?_
    refine WL_val rfl rfl rfl (R_assign rfl rfl) ?_
    refine WL_nil ?_
    refine WQ_code ?_
    refine WC_ret ?_
    refine WQ_ret rfl rfl (.cons (.tmp rfl) .nil) rfl (by
        exact ⟨congrArg (Value.int .u64) (by first | rfl | (rw [satN]; omega)), rfl⟩) (by repeat (first | exact Pulls.nil | exact Pulls.all | (apply Pulls.cons; (repeat (first | exact Pull.head | apply Pull.tail))) | apply Pulls.skip))
theorem plan_ok : Spec Try.prog 28 [] [] (fun r H' => r = .agg (pl ⟨10, 50, 2, 1, 5, 0, 0⟩).toArray ∧ H' = []) := by
  refine Spec.of (E := []) Try.func28 rfl (by kernel_rfl) Try.ntmps28 rfl rfl (fun w => ?_)
  refine WC_seq ?_
  refine WC_region ?_
  refine WL_do rfl rfl rfl (D_alloc rfl zv26) ?_
  rintro _ _ ⟨b1, rfl, rfl⟩
  refine WL_nil ?_
  refine WQ_code ?_
  refine WC_seq ?_
  refine WC_region ?_
  refine WL_val rfl rfl rfl (R_build rfl zv26 pl26 rfl rfl) ?_
  refine WL_do0 rfl rfl (D_store (vs := [_, _, _, _, _, _, _]) rfl Try.sizeOf26 rfl rfl rfl rfl rfl (by repeat (first | exact Pull.head | apply Pull.tail)) (by exact Nat.le_of_ble_eq_true rfl)) ?_
  rintro _ _ rfl
  refine WL_nil ?_
  refine WQ_code ?_
  refine WC_ret ?_
  refine WQ_ret rfl rfl (.cons (.cell (vs := [_, _, _, _, _, _, _]) rfl ag26 (by repeat (first | exact List.Mem.head _ | refine List.Mem.tail _ ?_)) rfl (by repeat (first | exact At.nil | refine At.cons ?_ | refine At.succ ?_))) .nil) rfl (by
      exact ⟨rfl, rfl⟩) (by repeat (first | exact Pulls.nil | exact Pulls.all | (apply Pulls.cons; (repeat (first | exact Pull.head | apply Pull.tail))) | apply Pulls.skip))

end Go.Proofs.Ytafjfllcebdjdaa
