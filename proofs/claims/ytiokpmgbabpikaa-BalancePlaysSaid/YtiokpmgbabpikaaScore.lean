/-
  Chapter 48 (balance), part Score: contracts of functions that the laws call, each for the heap it names.
-/
import Derived.Test.YtiokpmgbabpikaaRows
import Derived.Test.YtiokpmgbabpikaaZSLOpt
import Derived.Test.YtiokpmgbabpikaaTab
import Derived.Test.YtiokpmgbabpikaaScoL
import Derived.Test.YtiokpmgbabpikaaCmp
set_option linter.unusedVariables false
set_option maxRecDepth 20000
set_option maxHeartbeats 1000000
namespace Go.Proofs.Ytiokpmgbabpikaa


theorem score_ok (s : ByteArray) (hs : s.size ≤ 1000) (i : Int) : Spec Try.prog 7 [.string s, .int .i64 i] [] (fun r H' => r = .int .u32 (sco s i : Nat) ∧ H' = []) := by
  refine Spec.of (E := [(0, .string s), (1, .int .i64 i)]) Try.func7 rfl (by kernel_rfl) Try.ntmps7 rfl rfl (fun w => ?_)
  refine WC_seq ?_
  refine WC_region ?_
  refine WL_val rfl rfl rfl (R_assign rfl rfl) ?_
  refine WL_nil ?_
  refine WQ_code ?_
  refine WC_seq ?_
  refine WC_region ?_
  refine WL_val rfl rfl rfl (R_assign rfl rfl) ?_
  refine WL_nil ?_
  refine WQ_code ?_
  refine WC_seq ?_
  refine WC_seq ?_
  refine WC_region ?_
  refine WL_val rfl rfl rfl (R_move rfl rfl) ?_
  refine WL_val rfl rfl rfl (R_lenStr rfl Try.underlying9 rfl) ?_
  refine WL_val rfl rfl rfl (R_move rfl rfl) ?_
  refine WL_nil ?_
  refine WQ_code ?_
  refine WC_block ?_
  refine WC_loopF (G := ScW) [5, 6, 9, 10, 11, 12, 13, 14, 15, 16, 17, 18, 19] (fun y => y.k ≤ s.size ∧ y.x = fld ((byt s).take y.k)) (fun y => [(9, .int .i64 (y.k : Int)), (5, .int .u32 (y.x : Int))]) (fun y => []) (fun y => s.size - y.k) (⟨0, 2166136261⟩) (⟨Nat.zero_le _, rfl⟩) leZ (pqZ) ?_
  rintro y ⟨hk, hx⟩
  have hxl : y.x < 4294967296 := by rw [hx]; exact fld_lt _
  refine WC_seq ?_
  refine WC_region ?_
  refine WL_val rfl rfl rfl (R_lss rfl rfl rfl) ?_
  refine WL_nil ?_
  refine WQ_code ?_
  refine WC_seq ?_
  refine WC_dec rfl (fun c1 => ?_) (fun c1 => ?_)
  · refine WC_skip ?_
    refine WQ_code ?_
    refine WC_seq ?_
    refine WC_block ?_
    refine WC_seq ?_
    refine WC_region ?_
    refine WL_val rfl rfl rfl (R_move rfl rfl) ?_
    refine WL_val rfl rfl rfl (R_assign rfl rfl) ?_
    refine WL_nil ?_
    refine WQ_code ?_
    refine WC_region ?_
    obtain ⟨b, hb⟩ := getE (T := byt s) (i := y.k) (by rw [byt_len]; omega)
    have hbl : b.toNat < 256 := b.toNat_lt
    refine WL_val rfl rfl rfl (R_move rfl rfl) ?_
    refine WL_val rfl rfl rfl (R_move rfl rfl) ?_
    refine WL_val rfl rfl rfl (R_move rfl rfl) ?_
    refine WL_val rfl rfl rfl (R_indexStr rfl Try.underlying9 rfl rfl hb) ?_
    refine WL_val rfl rfl rfl (R_conv (r := ((b.toNat : Nat) : Int)) rfl Try.underlying5 Try.underlying22 rfl (IntWalk.u32_in _ (by omega))) ?_
    refine WL_val rfl rfl rfl (R_xorR (r := ((y.x ^^^ b.toNat : Nat) : Int)) rfl rfl rfl (xor32 hxl (by omega))) ?_
    refine WL_val rfl rfl rfl (R_mulR (r := ((stp y.x b.toNat : Nat) : Int)) rfl rfl rfl (by rw [IntKind.wrap_u32, stp]; omega)) ?_
    refine WL_val rfl rfl rfl (R_assign rfl rfl) ?_
    refine WL_nil ?_
    refine WQ_code ?_
    refine WC_region ?_
    refine WL_val rfl rfl rfl (R_add rfl rfl rfl (by omega)) ?_
    refine WL_val rfl rfl rfl (R_move rfl rfl) ?_
    refine WL_nil ?_
    refine WQ_nextF (⟨y.k + 1, stp y.x b.toNat⟩) (⟨by dsimp only; omega, by dsimp only; rw [fld_next hb, ← hx]⟩) (by dsimp only; omega) leZ (psZ) rfl (pqZ)
  · have hxf : y.x = fld (byt s) := by rw [hx, List.take_of_length_le (by rw [byt_len]; omega)]
    have hib := ib_lt i
    refine WC_exit ?_
    refine WQ_code ?_
    refine WC_seq ?_
    refine WC_region ?_
    refine WL_val rfl rfl rfl (R_move rfl rfl) ?_
    refine WL_val rfl rfl rfl (R_move rfl rfl) ?_
    refine WL_val rfl rfl rfl (R_conv (r := ((ib i : Nat) : Int)) rfl Try.underlying3 Try.underlying5 rfl (by rw [IntKind.wrap_u8, ib]; omega)) ?_
    refine WL_val rfl rfl rfl (R_conv (r := ((ib i : Nat) : Int)) rfl Try.underlying5 Try.underlying22 rfl (IntWalk.u32_in _ (by omega))) ?_
    refine WL_val rfl rfl rfl (R_xorR (r := ((y.x ^^^ ib i : Nat) : Int)) rfl rfl rfl (xor32 hxl (by omega))) ?_
    refine WL_val rfl rfl rfl (R_mulR (r := ((stp y.x (ib i) : Nat) : Int)) rfl rfl rfl (by rw [IntKind.wrap_u32, stp]; omega)) ?_
    refine WL_val rfl rfl rfl (R_assign rfl rfl) ?_
    refine WL_nil ?_
    refine WQ_code ?_
    refine WC_seq ?_
    refine WC_region ?_
    have hz1 := stp_lt y.x (ib i)
    have hz3 := mix_lt (stp y.x (ib i))
    refine WL_val rfl rfl rfl (R_move rfl rfl) ?_
    refine WL_val rfl rfl rfl (R_move rfl rfl) ?_
    refine WL_val rfl rfl rfl (R_shrR (r := ((stp y.x (ib i) / 65536 : Nat) : Int)) rfl rfl rfl (by omega) (shrN (s := 16) (b := 32) (by decide))) ?_
    refine WL_val rfl rfl rfl (R_xorR (r := (((stp y.x (ib i) ^^^ stp y.x (ib i) / 65536) : Nat) : Int)) rfl rfl rfl (xor32 hz1 (by omega))) ?_
    refine WL_val rfl rfl rfl (R_assign rfl rfl) ?_
    refine WL_nil ?_
    refine WQ_code ?_
    refine WC_seq ?_
    refine WC_region ?_
    refine WL_val rfl rfl rfl (R_move rfl rfl) ?_
    refine WL_val rfl rfl rfl (R_mulR (r := ((mix (stp y.x (ib i)) : Nat) : Int)) rfl rfl rfl (by rw [IntKind.wrap_u32, mix]; omega)) ?_
    refine WL_val rfl rfl rfl (R_assign rfl rfl) ?_
    refine WL_nil ?_
    refine WQ_code ?_
    refine WC_seq ?_
    refine WC_region ?_
    refine WL_val rfl rfl rfl (R_move rfl rfl) ?_
    refine WL_val rfl rfl rfl (R_move rfl rfl) ?_
    refine WL_val rfl rfl rfl (R_shrR (r := ((mix (stp y.x (ib i)) / 8192 : Nat) : Int)) rfl rfl rfl (by omega) (shrN (s := 13) (b := 32) (by decide))) ?_
    refine WL_val rfl rfl rfl (R_xorR (r := ((mix (stp y.x (ib i)) ^^^ mix (stp y.x (ib i)) / 8192 : Nat) : Int)) rfl rfl rfl (xor32 hz3 (by omega))) ?_
    refine WL_val rfl rfl rfl (R_assign rfl rfl) ?_
    refine WL_nil ?_
    refine WQ_code ?_
    refine WC_ret ?_
    refine WQ_ret rfl rfl (.cons (.tmp rfl) .nil) rfl (by
        exact ⟨by rw [hxf]; rfl, rfl⟩) (pqZ)
theorem lscore_ok (s : ByteArray) (hs : s.size ≤ 1000) (i : Int) : Spec Try.prog 8 [.string s, .int .i64 i] [] (fun r H' => r = .int .u32 (sco s i : Nat) ∧ H' = []) := by
  refine Spec.of (E := [(0, .string s), (1, .int .i64 i)]) Try.func8 rfl (by kernel_rfl) Try.ntmps8 rfl rfl (fun w => ?_)
  refine WC_seq ?_
  refine WC_region ?_
  refine WL_val rfl rfl rfl (R_assign rfl rfl) ?_
  refine WL_nil ?_
  refine WQ_code ?_
  refine WC_seq ?_
  refine WC_region ?_
  refine WL_val rfl rfl rfl (R_assign rfl rfl) ?_
  refine WL_nil ?_
  refine WQ_code ?_
  refine WC_seq ?_
  refine WC_seq ?_
  refine WC_region ?_
  refine WL_val rfl rfl rfl (R_assign rfl rfl) ?_
  refine WL_nil ?_
  refine WQ_code ?_
  refine WC_block ?_
  refine WC_loopF (G := ScW) [5, 6, 7, 8, 9, 10, 11, 12, 13, 14, 15, 16, 17, 18, 19, 20] (fun y => y.k ≤ s.size ∧ y.x = fld ((byt s).take y.k)) (fun y => [(6, .int .i64 (y.k : Int)), (5, .int .u64 (y.x : Int))]) (fun y => []) (fun y => s.size - y.k) (⟨0, 2166136261⟩) (⟨Nat.zero_le _, rfl⟩) leZ (pqZ) ?_
  rintro y ⟨hk, hx⟩
  have hxl : y.x < 4294967296 := by rw [hx]; exact fld_lt _
  refine WC_seq ?_
  refine WC_seq ?_
  refine WC_region ?_
  refine WL_val rfl rfl rfl (R_move rfl rfl) ?_
  refine WL_val rfl rfl rfl (R_move rfl rfl) ?_
  refine WL_val rfl rfl rfl (R_lenStr rfl Try.underlying9 rfl) ?_
  refine WL_val rfl rfl rfl (R_lss rfl rfl rfl) ?_
  refine WL_nil ?_
  refine WQ_code ?_
  refine WC_dec rfl (fun c1 => ?_) (fun c1 => ?_)
  · refine WC_skip ?_
    refine WQ_code ?_
    refine WC_seq ?_
    refine WC_block ?_
    refine WC_region ?_
    obtain ⟨b, hb⟩ := getE (T := byt s) (i := y.k) (by rw [byt_len]; omega)
    have hbl : b.toNat < 256 := b.toNat_lt
    have hxb := x32 hxl (show b.toNat < 4294967296 by omega)
    refine WL_val rfl rfl rfl (R_move rfl rfl) ?_
    refine WL_val rfl rfl rfl (R_move rfl rfl) ?_
    refine WL_val rfl rfl rfl (R_move rfl rfl) ?_
    refine WL_val rfl rfl rfl (R_indexStr rfl Try.underlying9 rfl rfl hb) ?_
    refine WL_val rfl rfl rfl (R_conv (r := ((b.toNat : Nat) : Int)) rfl Try.underlying5 Try.underlying29 rfl (w64 (by omega))) ?_
    refine WL_val rfl rfl rfl (R_xorR (r := ((y.x ^^^ b.toNat : Nat) : Int)) rfl rfl rfl (xor64 (by omega) (by omega))) ?_
    refine WL_val rfl rfl rfl (R_mulR (r := (((y.x ^^^ b.toNat) * 16777619 : Nat) : Int)) rfl rfl rfl (by rw [w64 ⟨by omega, by omega⟩]; omega)) ?_
    refine WL_val rfl rfl rfl (R_remR (r := ((stp y.x b.toNat : Nat) : Int)) rfl rfl rfl (by omega) (by rw [Int.tmod_eq_emod_of_nonneg (by omega), stp]; omega)) ?_
    refine WL_val rfl rfl rfl (R_assign rfl rfl) ?_
    refine WL_nil ?_
    refine WQ_code ?_
    refine WC_region ?_
    refine WL_val rfl rfl rfl (R_move rfl rfl) ?_
    refine WL_val rfl rfl rfl (R_add rfl rfl rfl (by omega)) ?_
    refine WL_val rfl rfl rfl (R_assign rfl rfl) ?_
    refine WL_nil ?_
    refine WQ_nextF (⟨y.k + 1, stp y.x b.toNat⟩) (⟨by dsimp only; omega, by dsimp only; rw [fld_next hb, ← hx]⟩) (by dsimp only; omega) leZ (psZ) rfl (pqZ)
  · have hxf : y.x = fld (byt s) := by rw [hx, List.take_of_length_le (by rw [byt_len]; omega)]
    have hib := ib_lt i
    refine WC_exit ?_
    refine WQ_code ?_
    refine WC_seq ?_
    refine WC_region ?_
    refine WL_val rfl rfl rfl (R_move rfl rfl) ?_
    refine WL_val rfl rfl rfl (R_move rfl rfl) ?_
    refine WL_val rfl rfl rfl (R_conv (r := ((ib i : Nat) : Int)) rfl Try.underlying3 Try.underlying5 rfl (by rw [IntKind.wrap_u8, ib]; omega)) ?_
    have hxi := x32 hxl (show ib i < 4294967296 by omega)
    refine WL_val rfl rfl rfl (R_conv (r := ((ib i : Nat) : Int)) rfl Try.underlying5 Try.underlying29 rfl (w64 (by omega))) ?_
    refine WL_val rfl rfl rfl (R_xorR (r := ((y.x ^^^ ib i : Nat) : Int)) rfl rfl rfl (xor64 (by omega) (by omega))) ?_
    refine WL_val rfl rfl rfl (R_mulR (r := (((y.x ^^^ ib i) * 16777619 : Nat) : Int)) rfl rfl rfl (by rw [w64 ⟨by omega, by omega⟩]; omega)) ?_
    refine WL_val rfl rfl rfl (R_remR (r := ((stp y.x (ib i) : Nat) : Int)) rfl rfl rfl (by omega) (by rw [Int.tmod_eq_emod_of_nonneg (by omega), stp]; omega)) ?_
    refine WL_val rfl rfl rfl (R_assign rfl rfl) ?_
    refine WL_nil ?_
    refine WQ_code ?_
    refine WC_seq ?_
    refine WC_region ?_
    have hz1 := stp_lt y.x (ib i)
    have hz3 := mix_lt (stp y.x (ib i))
    have hz2 := x32 hz1 (show stp y.x (ib i) / 65536 < 4294967296 by omega)
    refine WL_val rfl rfl rfl (R_move rfl rfl) ?_
    refine WL_val rfl rfl rfl (R_move rfl rfl) ?_
    refine WL_val rfl rfl rfl (R_quoR (r := ((stp y.x (ib i) / 65536 : Nat) : Int)) rfl rfl rfl (by omega) (by rw [q64 ⟨by omega, by omega, by omega⟩]; omega)) ?_
    refine WL_val rfl rfl rfl (R_xorR (r := (((stp y.x (ib i) ^^^ stp y.x (ib i) / 65536) : Nat) : Int)) rfl rfl rfl (xor64 (by omega) (by omega))) ?_
    refine WL_val rfl rfl rfl (R_assign rfl rfl) ?_
    refine WL_nil ?_
    refine WQ_code ?_
    refine WC_seq ?_
    refine WC_region ?_
    refine WL_val rfl rfl rfl (R_move rfl rfl) ?_
    refine WL_val rfl rfl rfl (R_mulR (r := (((stp y.x (ib i) ^^^ stp y.x (ib i) / 65536) * 2246822519 : Nat) : Int)) rfl rfl rfl (by rw [w64 ⟨by omega, by omega⟩]; omega)) ?_
    refine WL_val rfl rfl rfl (R_remR (r := ((mix (stp y.x (ib i)) : Nat) : Int)) rfl rfl rfl (by omega) (by rw [Int.tmod_eq_emod_of_nonneg (by omega), mix]; omega)) ?_
    refine WL_val rfl rfl rfl (R_assign rfl rfl) ?_
    refine WL_nil ?_
    refine WQ_code ?_
    refine WC_seq ?_
    refine WC_region ?_
    refine WL_val rfl rfl rfl (R_move rfl rfl) ?_
    refine WL_val rfl rfl rfl (R_move rfl rfl) ?_
    refine WL_val rfl rfl rfl (R_quoR (r := ((mix (stp y.x (ib i)) / 8192 : Nat) : Int)) rfl rfl rfl (by omega) (by rw [q64 ⟨by omega, by omega, by omega⟩]; omega)) ?_
    refine WL_val rfl rfl rfl (R_xorR (r := ((mix (stp y.x (ib i)) ^^^ mix (stp y.x (ib i)) / 8192 : Nat) : Int)) rfl rfl rfl (xor64 (by omega) (by omega))) ?_
    refine WL_val rfl rfl rfl (R_conv (r := ((mix (stp y.x (ib i)) ^^^ mix (stp y.x (ib i)) / 8192 : Nat) : Int)) rfl Try.underlying29 Try.underlying22 rfl (IntWalk.u32_in _ (by have := x32 hz3 (show mix (stp y.x (ib i)) / 8192 < 4294967296 by omega); omega))) ?_
    refine WL_val rfl rfl rfl (R_assign rfl rfl) ?_
    refine WL_nil ?_
    refine WQ_code ?_
    refine WC_ret ?_
    refine WQ_ret rfl rfl (.cons (.tmp rfl) .nil) rfl (by
        exact ⟨by rw [hxf]; rfl, rfl⟩) (pqZ)

end Go.Proofs.Ytiokpmgbabpikaa
