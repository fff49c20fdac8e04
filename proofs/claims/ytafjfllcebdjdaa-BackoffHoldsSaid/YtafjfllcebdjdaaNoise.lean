/-
  Chapter 47 (backoff), part Noise: contracts of functions that the laws call, each for the heap it names.
-/
import Derived.Test.YtafjfllcebdjdaaRows
import Derived.Test.YtafjfllcebdjdaaSLMarks
import Derived.Test.YtafjfllcebdjdaaSLInt
import Derived.Test.YtafjfllcebdjdaaSLBirth
import Derived.Test.YtafjfllcebdjdaaTab
set_option linter.unusedVariables false
set_option maxRecDepth 20000
namespace Go.Proofs.Ytafjfllcebdjdaa


def nz0 (s k : Nat) : Nat := (s * 2654435761 + k) % 4294967296
def nz1 (s k : Nat) : Nat := nz0 s k ^^^ (nz0 s k / 65536)
def nz2 (s k : Nat) : Nat := nz1 s k * 2246822519 % 4294967296
def nz3 (s k : Nat) : Nat := nz2 s k ^^^ (nz2 s k / 8192)
def nz (s k : Nat) : Nat := nz3 s k % 65536
theorem nz0_lt (s k : Nat) : nz0 s k < 4294967296 := Nat.mod_lt _ (by omega)
theorem nz1_lt (s k : Nat) : nz1 s k < 4294967296 := by
  have := nz0_lt s k
  exact Nat.xor_lt_two_pow (n := 32) (by omega) (by omega)
theorem nz2_lt (s k : Nat) : nz2 s k < 4294967296 := Nat.mod_lt _ (by omega)
theorem nz3_lt (s k : Nat) : nz3 s k < 4294967296 := by
  have := nz2_lt s k
  exact Nat.xor_lt_two_pow (n := 32) (by omega) (by omega)
theorem nz_lt (s k : Nat) : nz s k < 65536 := Nat.mod_lt _ (by omega)
theorem noise_ok (s k : Nat) (hs : s < 4294967296) (hk : k < 1000000) : Spec Try.prog 40 [.int .u32 (s : Int), .int .i64 (k : Int)] [] (fun r H' => r = .int .u64 (nz s k : Nat) ∧ H' = []) := by
  have h0 := nz0_lt s k
  have h1 := nz1_lt s k
  have h2 := nz2_lt s k
  have h3 := nz3_lt s k
  have h4 := nz_lt s k
  refine Spec.of (E := [(0, .int .u32 (s : Int)), (1, .int .i64 (k : Int))]) Try.func40 rfl (by kernel_rfl) Try.ntmps40 rfl rfl (fun w => ?_)
  refine WC_seq ?_
  refine WC_region ?_
  refine WL_val rfl rfl rfl (R_assign rfl rfl) ?_
  refine WL_nil ?_
  refine WQ_code ?_
  refine WC_seq ?_
  refine WC_region ?_
  refine WL_val rfl rfl rfl (R_move rfl rfl) ?_
  refine WL_val rfl rfl rfl (R_mulR (r := ((s * 2654435761 % 4294967296 : Nat) : Int)) rfl rfl rfl (by rw [IntKind.wrap_u32]; omega)) ?_
  refine WL_val rfl rfl rfl (R_move rfl rfl) ?_
  refine WL_val rfl rfl rfl (R_conv (r := (k : Int)) rfl Try.underlying3 Try.underlying24 rfl (IntWalk.u32_in _ (by omega))) ?_
  refine WL_val rfl rfl rfl (R_addR (r := ((nz0 s k : Nat) : Int)) rfl rfl rfl (by rw [IntKind.wrap_u32, nz0]; omega)) ?_
  refine WL_val rfl rfl rfl (R_assign rfl rfl) ?_
  refine WL_nil ?_
  refine WQ_code ?_
  refine WC_seq ?_
  refine WC_region ?_
  refine WL_val rfl rfl rfl (R_move rfl rfl) ?_
  refine WL_val rfl rfl rfl (R_move rfl rfl) ?_
  refine WL_val rfl rfl rfl (R_shrR (r := ((nz0 s k / 65536 : Nat) : Int)) rfl rfl rfl (by omega) (shrN (s := 16) (b := 32) (by decide))) ?_
  refine WL_val rfl rfl rfl (R_xorR (r := ((nz1 s k : Nat) : Int)) rfl rfl rfl (xor32 h0 (by omega))) ?_
  refine WL_val rfl rfl rfl (R_assign rfl rfl) ?_
  refine WL_nil ?_
  refine WQ_code ?_
  refine WC_seq ?_
  refine WC_region ?_
  refine WL_val rfl rfl rfl (R_move rfl rfl) ?_
  refine WL_val rfl rfl rfl (R_mulR (r := ((nz2 s k : Nat) : Int)) rfl rfl rfl (by rw [IntKind.wrap_u32, nz2]; omega)) ?_
  refine WL_val rfl rfl rfl (R_assign rfl rfl) ?_
  refine WL_nil ?_
  refine WQ_code ?_
  refine WC_seq ?_
  refine WC_region ?_
  refine WL_val rfl rfl rfl (R_move rfl rfl) ?_
  refine WL_val rfl rfl rfl (R_move rfl rfl) ?_
  refine WL_val rfl rfl rfl (R_shrR (r := ((nz2 s k / 8192 : Nat) : Int)) rfl rfl rfl (by omega) (shrN (s := 13) (b := 32) (by decide))) ?_
  refine WL_val rfl rfl rfl (R_xorR (r := ((nz3 s k : Nat) : Int)) rfl rfl rfl (xor32 h2 (by omega))) ?_
  refine WL_val rfl rfl rfl (R_assign rfl rfl) ?_
  refine WL_nil ?_
  refine WQ_code ?_
  refine WC_seq ?_
  refine WC_region ?_
  refine WL_val rfl rfl rfl (R_move rfl rfl) ?_
  refine WL_val rfl rfl rfl (R_andR (r := ((nz s k : Nat) : Int)) rfl rfl rfl ((and32 (b := 65535) h3 (by decide)).trans (congrArg Int.ofNat (Nat.and_two_pow_sub_one_eq_mod (nz3 s k) 16)))) ?_
  refine WL_val rfl rfl rfl (R_conv (r := ((nz s k : Nat) : Int)) rfl Try.underlying24 Try.underlying22 rfl (w64 (by omega))) ?_
  refine WL_val rfl rfl rfl (R_assign rfl rfl) ?_
  refine WL_nil ?_
  refine WQ_code ?_
  refine WC_ret ?_
  refine WQ_ret rfl rfl (.cons (.tmp rfl) .nil) rfl (by
      exact ⟨rfl, rfl⟩) (by repeat (first | exact Pulls.nil | exact Pulls.all | (apply Pulls.cons; (repeat (first | exact Pull.head | apply Pull.tail))) | apply Pulls.skip))
theorem lnoise_ok (s k : Nat) (hs : s < 4294967296) (hk : k < 1000000) : Spec Try.prog 31 [.int .u32 (s : Int), .int .i64 (k : Int)] [] (fun r H' => r = .int .u64 (nz s k : Nat) ∧ H' = []) := by
  have h0 := nz0_lt s k
  have h1 := nz1_lt s k
  have h2 := nz2_lt s k
  have h3 := nz3_lt s k
  have h4 := nz_lt s k
  refine Spec.of (E := [(0, .int .u32 (s : Int)), (1, .int .i64 (k : Int))]) Try.func31 rfl (by kernel_rfl) Try.ntmps31 rfl rfl (fun w => ?_)
  refine WC_seq ?_
  refine WC_region ?_
  refine WL_val rfl rfl rfl (R_assign rfl rfl) ?_
  refine WL_nil ?_
  refine WQ_code ?_
  refine WC_seq ?_
  refine WC_region ?_
  refine WL_val rfl rfl rfl (R_move rfl rfl) ?_
  refine WL_val rfl rfl rfl (R_conv (r := (s : Int)) rfl Try.underlying24 Try.underlying22 rfl (w64 (by omega))) ?_
  refine WL_val rfl rfl rfl (R_mulR (r := ((s * 2654435761 : Nat) : Int)) rfl rfl rfl (by rw [w64 (by omega)]; omega)) ?_
  refine WL_val rfl rfl rfl (R_move rfl rfl) ?_
  refine WL_val rfl rfl rfl (R_conv (r := (k : Int)) rfl Try.underlying3 Try.underlying22 rfl (w64 (by omega))) ?_
  refine WL_val rfl rfl rfl (R_addR (r := ((s * 2654435761 + k : Nat) : Int)) rfl rfl rfl (by rw [w64 (by omega)]; omega)) ?_
  refine WL_val rfl rfl rfl (R_assign rfl rfl) ?_
  refine WL_nil ?_
  refine WQ_code ?_
  refine WC_seq ?_
  refine WC_region ?_
  refine WL_val rfl rfl rfl (R_move rfl rfl) ?_
  refine WL_val rfl rfl rfl (R_remR (r := ((nz0 s k : Nat) : Int)) rfl rfl rfl (by omega) (remN (b := 4294967296))) ?_
  refine WL_val rfl rfl rfl (R_assign rfl rfl) ?_
  refine WL_nil ?_
  refine WQ_code ?_
  refine WC_seq ?_
  refine WC_region ?_
  refine WL_val rfl rfl rfl (R_move rfl rfl) ?_
  refine WL_val rfl rfl rfl (R_move rfl rfl) ?_
  refine WL_val rfl rfl rfl (R_quoR (r := ((nz0 s k / 65536 : Nat) : Int)) rfl rfl rfl (by omega) (quoN (b := 65536) (by omega) (by omega))) ?_
  refine WL_val rfl rfl rfl (R_xorR (r := ((nz1 s k : Nat) : Int)) rfl rfl rfl (xor64 (by omega) (by omega))) ?_
  refine WL_val rfl rfl rfl (R_assign rfl rfl) ?_
  refine WL_nil ?_
  refine WQ_code ?_
  refine WC_seq ?_
  refine WC_region ?_
  refine WL_val rfl rfl rfl (R_move rfl rfl) ?_
  refine WL_val rfl rfl rfl (R_mulR (r := ((nz1 s k * 2246822519 : Nat) : Int)) rfl rfl rfl (by rw [w64 (by omega)]; omega)) ?_
  refine WL_val rfl rfl rfl (R_remR (r := ((nz2 s k : Nat) : Int)) rfl rfl rfl (by omega) (remN (b := 4294967296))) ?_
  refine WL_val rfl rfl rfl (R_assign rfl rfl) ?_
  refine WL_nil ?_
  refine WQ_code ?_
  refine WC_seq ?_
  refine WC_region ?_
  refine WL_val rfl rfl rfl (R_move rfl rfl) ?_
  refine WL_val rfl rfl rfl (R_move rfl rfl) ?_
  refine WL_val rfl rfl rfl (R_quoR (r := ((nz2 s k / 8192 : Nat) : Int)) rfl rfl rfl (by omega) (quoN (b := 8192) (by omega) (by omega))) ?_
  refine WL_val rfl rfl rfl (R_xorR (r := ((nz3 s k : Nat) : Int)) rfl rfl rfl (xor64 (by omega) (by omega))) ?_
  refine WL_val rfl rfl rfl (R_assign rfl rfl) ?_
  refine WL_nil ?_
  refine WQ_code ?_
  refine WC_seq ?_
  refine WC_region ?_
  refine WL_val rfl rfl rfl (R_move rfl rfl) ?_
  refine WL_val rfl rfl rfl (R_remR (r := ((nz s k : Nat) : Int)) rfl rfl rfl (by omega) (remN (b := 65536))) ?_
  refine WL_val rfl rfl rfl (R_assign rfl rfl) ?_
  refine WL_nil ?_
  refine WQ_code ?_
  refine WC_ret ?_
  refine WQ_ret rfl rfl (.cons (.tmp rfl) .nil) rfl (by
      exact ⟨rfl, rfl⟩) (by repeat (first | exact Pulls.nil | exact Pulls.all | (apply Pulls.cons; (repeat (first | exact Pull.head | apply Pull.tail))) | apply Pulls.skip))

end Go.Proofs.Ytafjfllcebdjdaa
