/-
  Chapter 48 (balance), part Hold: contracts of functions that the laws call, each for the heap it names.
-/
import Derived.Test.YtiokpmgbabpikaaRows
import Derived.Test.YtiokpmgbabpikaaSLPhase
import Derived.Test.YtiokpmgbabpikaaSLArray
import Derived.Test.YtiokpmgbabpikaaSLInt
import Derived.Test.YtiokpmgbabpikaaTab
import Derived.Test.YtiokpmgbabpikaaHoldL
import Derived.Test.YtiokpmgbabpikaaKnown
import Derived.Test.YtiokpmgbabpikaaValid
set_option linter.unusedVariables false
set_option maxRecDepth 20000
set_option maxHeartbeats 16000000
namespace Go.Proofs.Ytiokpmgbabpikaa


structure HrW where
  r : Nat
  ma : Bm
  sa : BS
  na : Nat
  mb : Bm
  sb : BS
  nb : Nat
structure HaW where
  i : Nat
  m : Bm
  s : BS
  n : Nat
structure HbW where
  t : Nat
  m : Bm
  s : BS
  n : Nat
  G : List Int
theorem pick_last {n N : Nat} {m : Bm} {s : BS} {g : Nat} (h : HashOk n s) (hg : g < n) (hi : BIs N m (s.setup g false)) (hN : N ≤ 9000) (key : ByteArray) (hk : key.size ≤ 64) (x : Int) (hx : hashI key (rng n) = x) : Spec Try.prog 12 [ptrB m.p, .int .u64 ((0 : Nat) : Int), .string key] (balH m)
    (fun r H' => (n = 1 ∧ r = .tuple #[.agg #[.int .i64 0, .int .i64 0], .int .i64 9]) ∨ (2 ≤ n ∧ ∃ z c : Int, r = .tuple #[.agg #[.int .i64 z, .int .i64 c], .int .i64 0] ∧ z ≠ (g : Int) ∧ (x ≠ (g : Int) → z = x))) := by
  subst hx
  obtain ⟨hl, h1, h2⟩ := h.out hg key
  by_cases hn : n = 1
  · exact (bpn_ok hi hN 0 key hk (by omega) (by decide) (h1 hn)).mono fun r H' ⟨e1, e2⟩ => .inl ⟨hn, e1⟩
  · obtain ⟨hne, z, hz, hz1, hz2⟩ := h2 (by omega)
    exact (bp_ok hi hN 0 key hk (by omega) (by decide) hne).mono fun r H' ⟨m', e1, _⟩ => .inr ⟨by omega, z, (((s.setup g false).gv + 1 : Nat) : Int), by rw [e1, hz], hz1, hz2⟩
theorem holds_bad (W : List Int) (oa : Option Addr) (c : Nat) (ent : Ent) (ha : Rd oa ent W) (rd : Nat) (key : ByteArray) (ou : Nat) (hb : W.length ≤ 9223372036854775807) (hs : key.size ≤ 9223372036854775807) (h : ¬ (W.length ≤ 8 ∧ VOk 1 W 1 1 ∧ rd ≤ 3 ∧ key.size ≤ 64)) : Spec Try.prog 4 [.slice oa W.length c, .int .u8 (rd : Int), .string key, .int .u8 (ou : Int)] [ent] (fun r H' => r = .bool true ∧ H' = [ent]) := by
  refine Spec.of (E := [(0, .slice oa W.length c), (1, .int .u8 (rd : Int)), (2, .string key), (3, .int .u8 (ou : Int))]) Try.func4 rfl (by kernel_rfl) Try.ntmps4 rfl rfl (fun w => ?_)
  refine WC_seq ?_
  refine WC_region ?_
  refine WL_val rfl rfl rfl (R_assign rfl rfl) ?_
  refine WL_nil ?_
  refine WQ_code ?_
  refine WC_seq ?_
  refine WC_region ?_
  refine WL_val rfl rfl rfl (R_move rfl rfl) ?_
  refine WL_val rfl rfl rfl (R_len rfl Try.underlying26 rfl) ?_
  refine WL_val rfl rfl rfl (R_assign rfl rfl) ?_
  refine WL_nil ?_
  refine WQ_code ?_
  refine WC_seq ?_
  refine WC_seq ?_
  refine WC_region ?_
  refine WL_val rfl rfl rfl (R_move rfl rfl) ?_
  refine WL_val rfl rfl rfl (R_gtr rfl rfl rfl) ?_
  refine WL_val rfl rfl rfl (R_move rfl rfl) ?_
  refine WL_splitD (s := 35) rfl (fun c1 => ?_) (fun c1 => ?_)
  · refine WL_skip rfl rfl rfl ?_
    refine WL_skip rfl rfl rfl ?_
    refine WL_skip rfl rfl rfl ?_
    refine WL_val rfl rfl rfl (R_pickT rfl rfl rfl) ?_
    refine WL_val rfl rfl rfl (R_move rfl rfl) ?_
    refine WL_skip rfl rfl rfl ?_
    refine WL_skip rfl rfl rfl ?_
    refine WL_val rfl rfl rfl (R_pickT rfl rfl rfl) ?_
    refine WL_val rfl rfl rfl (R_move rfl rfl) ?_
    refine WL_skip rfl rfl rfl ?_
    refine WL_skip rfl rfl rfl ?_
    refine WL_skip rfl rfl rfl ?_
    refine WL_val rfl rfl rfl (R_pickT rfl rfl rfl) ?_
    refine WL_nil ?_
    refine WQ_code ?_
    refine WC_T rfl ?_
    refine WC_seq ?_
    refine WC_region ?_
    refine WL_do rfl rfl rfl (D_call (known_ok) rfl rfl rfl rfl (pqY)) ?_
    rintro _ _ ⟨_, ⟨rfl, rfl⟩, rfl⟩
    refine WL_val rfl rfl rfl (R_assign rfl rfl) ?_
    refine WL_nil ?_
    refine WQ_code ?_
    refine WC_ret ?_
    refine WQ_ret rfl rfl (.cons (.tmp rfl) .nil) rfl (by
        exact ⟨rfl, rfl⟩) (pqY)
  · refine WL_val rfl rfl rfl (R_move rfl rfl) ?_
    refine WL_do rfl rfl rfl (D_call (valid_ok 1 W oa c ent ha 1 1 hb) rfl rfl rfl rfl (pqY)) ?_
    rintro _ _ ⟨_, ⟨rfl, rfl⟩, rfl⟩
    refine WL_val rfl rfl rfl (R_notD rfl rfl) ?_
    refine WL_val rfl rfl rfl (R_pickF rfl rfl rfl) ?_
    refine WL_val rfl rfl rfl (R_move rfl rfl) ?_
    refine WL_splitD (s := 40) rfl (fun c2 => ?_) (fun c2 => ?_)
    · refine WL_skip rfl rfl rfl ?_
      refine WL_skip rfl rfl rfl ?_
      refine WL_val rfl rfl rfl (R_pickT rfl rfl rfl) ?_
      refine WL_val rfl rfl rfl (R_move rfl rfl) ?_
      refine WL_skip rfl rfl rfl ?_
      refine WL_skip rfl rfl rfl ?_
      refine WL_skip rfl rfl rfl ?_
      refine WL_val rfl rfl rfl (R_pickT rfl rfl rfl) ?_
      refine WL_nil ?_
      refine WQ_code ?_
      refine WC_T rfl ?_
      refine WC_seq ?_
      refine WC_region ?_
      refine WL_do rfl rfl rfl (D_call (known_ok) rfl rfl rfl rfl (pqY)) ?_
      rintro _ _ ⟨_, ⟨rfl, rfl⟩, rfl⟩
      refine WL_val rfl rfl rfl (R_assign rfl rfl) ?_
      refine WL_nil ?_
      refine WQ_code ?_
      refine WC_ret ?_
      refine WQ_ret rfl rfl (.cons (.tmp rfl) .nil) rfl (by
          exact ⟨rfl, rfl⟩) (pqY)
    · have hVV : VOk 1 W 1 1 := Decidable.not_not.1 c2
      refine WL_val rfl rfl rfl (R_move rfl rfl) ?_
      refine WL_val rfl rfl rfl (R_gtr rfl rfl rfl) ?_
      refine WL_val rfl rfl rfl (R_pickF rfl rfl rfl) ?_
      refine WL_val rfl rfl rfl (R_move rfl rfl) ?_
      refine WL_splitD (s := 44) rfl (fun c3 => ?_) (fun c3 => ?_)
      · refine WL_skip rfl rfl rfl ?_
        refine WL_skip rfl rfl rfl ?_
        refine WL_skip rfl rfl rfl ?_
        refine WL_val rfl rfl rfl (R_pickT rfl rfl rfl) ?_
        refine WL_nil ?_
        refine WQ_code ?_
        refine WC_T rfl ?_
        refine WC_seq ?_
        refine WC_region ?_
        refine WL_do rfl rfl rfl (D_call (known_ok) rfl rfl rfl rfl (pqY)) ?_
        rintro _ _ ⟨_, ⟨rfl, rfl⟩, rfl⟩
        refine WL_val rfl rfl rfl (R_assign rfl rfl) ?_
        refine WL_nil ?_
        refine WQ_code ?_
        refine WC_ret ?_
        refine WQ_ret rfl rfl (.cons (.tmp rfl) .nil) rfl (by
            exact ⟨rfl, rfl⟩) (pqY)
      · refine WL_val rfl rfl rfl (R_move rfl rfl) ?_
        refine WL_val rfl rfl rfl (R_lenStr rfl Try.underlying9 rfl) ?_
        refine WL_val rfl rfl rfl (R_gtr rfl rfl rfl) ?_
        refine WL_val rfl rfl rfl (R_pickF rfl rfl rfl) ?_
        refine WL_nil ?_
        refine WQ_code ?_
        refine WC_dec rfl (fun c4 => ?_) (fun c4 => ?_)
        · refine WC_seq ?_
          refine WC_region ?_
          refine WL_do rfl rfl rfl (D_call (known_ok) rfl rfl rfl rfl (pqY)) ?_
          rintro _ _ ⟨_, ⟨rfl, rfl⟩, rfl⟩
          refine WL_val rfl rfl rfl (R_assign rfl rfl) ?_
          refine WL_nil ?_
          refine WQ_code ?_
          refine WC_ret ?_
          refine WQ_ret rfl rfl (.cons (.tmp rfl) .nil) rfl (by
              exact ⟨rfl, rfl⟩) (pqY)
        · exfalso; apply h; exact ⟨by omega, by assumption, by omega, by omega⟩
theorem holds_ok (W : List Int) (oa : Option Addr) (c : Nat) (ent : Ent) (ha : Rd oa ent W) (rd : Nat) (key : ByteArray) (ou : Nat) (hou : ou < 256) (h8 : W.length ≤ 8) (hV : VOk 1 W 1 1) (hr : rd ≤ 3) (hk : key.size ≤ 64) : Spec Try.prog 4 [.slice oa W.length c, .int .u8 (rd : Int), .string key, .int .u8 (ou : Int)] [ent] (fun r H' => r = .bool true ∧ H' = [ent]) := by
  have htp := tot_pos W hV.2.2.1
  obtain ⟨S, hS⟩ := Int.eq_ofNat_of_zero_le (show 0 ≤ tot W by omega)
  have h1n := hV.2.1.1
  have hS8 : S ≤ 800 := by omega
  obtain ⟨x9, hx9, hx9n⟩ : ∃ x : Nat, hashI key (rng W.length) = (x : Int) ∧ x < W.length := rng_mem (sel_mem _ (rng_ne h1n))
  have hgn : ou % W.length < W.length := Nat.mod_lt _ (by omega)
  refine Spec.of (E := [(0, .slice oa W.length c), (1, .int .u8 (rd : Int)), (2, .string key), (3, .int .u8 (ou : Int))]) Try.func4 rfl (by kernel_rfl) Try.ntmps4 rfl rfl (fun w => ?_)
  refine WC_seq ?_
  refine WC_region ?_
  refine WL_val rfl rfl rfl (R_assign rfl rfl) ?_
  refine WL_nil ?_
  refine WQ_code ?_
  refine WC_seq ?_
  refine WC_region ?_
  refine WL_val rfl rfl rfl (R_move rfl rfl) ?_
  refine WL_val rfl rfl rfl (R_len rfl Try.underlying26 rfl) ?_
  refine WL_val rfl rfl rfl (R_assign rfl rfl) ?_
  refine WL_nil ?_
  refine WQ_code ?_
  refine WC_seq ?_
  refine WC_seq ?_
  refine WC_region ?_
  refine WL_val rfl rfl rfl (R_move rfl rfl) ?_
  refine WL_val rfl rfl rfl (R_gtr rfl rfl rfl) ?_
  refine WL_val rfl rfl rfl (R_move rfl rfl) ?_
  refine WL_set (s := 35) (v := .bool false) rfl (by exact congrArg Value.bool (decide_eq_false (by omega))) ?_
  refine WL_val rfl rfl rfl (R_move rfl rfl) ?_
  refine WL_do rfl rfl rfl (D_call (valid_ok 1 W oa c ent ha 1 1 (by omega)) rfl rfl rfl rfl (pqY)) ?_
  rintro _ _ ⟨_, ⟨rfl, rfl⟩, rfl⟩
  refine WL_val rfl rfl rfl (R_notD rfl rfl) ?_
  refine WL_val rfl rfl rfl (R_pickF rfl rfl rfl) ?_
  refine WL_val rfl rfl rfl (R_move rfl rfl) ?_
  refine WL_set (s := 40) (v := .bool false) rfl (by exact congrArg Value.bool (decide_eq_false (fun h => h hV))) ?_
  refine WL_val rfl rfl rfl (R_move rfl rfl) ?_
  refine WL_val rfl rfl rfl (R_gtr rfl rfl rfl) ?_
  refine WL_val rfl rfl rfl (R_pickF rfl rfl rfl) ?_
  refine WL_val rfl rfl rfl (R_move rfl rfl) ?_
  refine WL_set (s := 44) (v := .bool false) rfl (by exact congrArg Value.bool (decide_eq_false (by omega))) ?_
  refine WL_val rfl rfl rfl (R_move rfl rfl) ?_
  refine WL_val rfl rfl rfl (R_lenStr rfl Try.underlying9 rfl) ?_
  refine WL_val rfl rfl rfl (R_gtr rfl rfl rfl) ?_
  refine WL_val rfl rfl rfl (R_pickF rfl rfl rfl) ?_
  refine WL_nil ?_
  refine WQ_code ?_
  refine WC_dF rfl (by omega) ?_
  refine WC_skip ?_
  refine WQ_code ?_
  refine WC_seq ?_
  refine WC_region ?_
  refine WL_val rfl rfl rfl (R_move rfl rfl) ?_
  refine WL_do rfl rfl rfl (D_call (bnew_is 1 (by decide) W oa c ent ha 1 1 hV.2.1 hV.2.2.2 hV.2.2.1) rfl rfl rfl rfl (pqY)) ?_
  rintro _ _ ⟨_, ⟨ma0, rfl, rfl, gma0⟩, rfl⟩
  refine WL_val rfl rfl rfl (R_move rfl rfl) ?_
  refine WL_val rfl rfl rfl (R_extract rfl rfl rfl) ?_
  refine WL_val rfl rfl rfl (R_extract rfl rfl rfl) ?_
  refine WL_val rfl rfl rfl (R_assign rfl rfl) ?_
  refine WL_val rfl rfl rfl (R_assign rfl rfl) ?_
  refine WL_nil ?_
  refine WQ_code ?_
  refine WC_seq ?_
  refine WC_region ?_
  refine WL_val rfl rfl rfl (R_move rfl rfl) ?_
  refine WL_do rfl rfl rfl (D_call (bnew_is 3 (by decide) W oa c ent ha 1 1 hV.2.1 hV.2.2.2 hV.2.2.1) rfl rfl rfl rfl (pqY)) ?_
  rintro _ _ ⟨_, ⟨mb0, rfl, rfl, gmb0⟩, rfl⟩
  refine WL_val rfl rfl rfl (R_move rfl rfl) ?_
  refine WL_val rfl rfl rfl (R_extract rfl rfl rfl) ?_
  refine WL_val rfl rfl rfl (R_extract rfl rfl rfl) ?_
  refine WL_val rfl rfl rfl (R_assign rfl rfl) ?_
  refine WL_val rfl rfl rfl (R_assign rfl rfl) ?_
  refine WL_nil ?_
  refine WQ_code ?_
  refine WC_seq ?_
  refine WC_region ?_
  refine WL_val rfl rfl rfl (R_move rfl rfl) ?_
  refine WL_do rfl rfl rfl (D_call (bnew_is 4 (by decide) W oa c ent ha 1 1 hV.2.1 hV.2.2.2 hV.2.2.1) rfl rfl rfl rfl (pqY)) ?_
  rintro _ _ ⟨_, ⟨mc0, rfl, rfl, gmc0⟩, rfl⟩
  refine WL_val rfl rfl rfl (R_move rfl rfl) ?_
  refine WL_val rfl rfl rfl (R_extract rfl rfl rfl) ?_
  refine WL_val rfl rfl rfl (R_extract rfl rfl rfl) ?_
  refine WL_val rfl rfl rfl (R_assign rfl rfl) ?_
  refine WL_val rfl rfl rfl (R_assign rfl rfl) ?_
  refine WL_nil ?_
  refine WQ_code ?_
  refine WC_seq ?_
  refine WC_seq ?_
  refine WC_region ?_
  refine WL_val rfl rfl rfl (R_move rfl rfl) ?_
  refine WL_val rfl rfl rfl (R_ptrEqNil rfl Try.underlying31 rfl) ?_
  refine WL_val rfl rfl rfl (R_move rfl rfl) ?_
  refine WL_val rfl rfl rfl (R_move rfl rfl) ?_
  refine WL_val rfl rfl rfl (R_ptrEqNil rfl Try.underlying31 rfl) ?_
  refine WL_val rfl rfl rfl (R_pickF rfl rfl rfl) ?_
  refine WL_val rfl rfl rfl (R_move rfl rfl) ?_
  refine WL_val rfl rfl rfl (R_move rfl rfl) ?_
  refine WL_val rfl rfl rfl (R_ptrEqNil rfl Try.underlying31 rfl) ?_
  refine WL_val rfl rfl rfl (R_pickF rfl rfl rfl) ?_
  refine WL_val rfl rfl rfl (R_move rfl rfl) ?_
  refine WL_val rfl rfl rfl (R_move rfl rfl) ?_
  refine WL_val rfl rfl rfl (R_neq rfl rfl rfl) ?_
  refine WL_set (s := 77) (v := .bool false) rfl (by simp) ?_
  refine WL_val rfl rfl rfl (R_pickF rfl rfl rfl) ?_
  refine WL_val rfl rfl rfl (R_move rfl rfl) ?_
  refine WL_val rfl rfl rfl (R_move rfl rfl) ?_
  refine WL_val rfl rfl rfl (R_neq rfl rfl rfl) ?_
  refine WL_val rfl rfl rfl (R_pickF rfl rfl rfl) ?_
  refine WL_val rfl rfl rfl (R_move rfl rfl) ?_
  refine WL_set (s := 83) (v := .bool false) rfl (by simp) ?_
  refine WL_val rfl rfl rfl (R_move rfl rfl) ?_
  refine WL_val rfl rfl rfl (R_neq rfl rfl rfl) ?_
  refine WL_val rfl rfl rfl (R_pickF rfl rfl rfl) ?_
  refine WL_nil ?_
  refine WQ_code ?_
  refine WC_dF rfl (by simp) ?_
  refine WC_skip ?_
  refine WQ_code ?_
  refine WC_seq ?_
  refine WC_region ?_
  refine WL_val rfl rfl rfl (R_assign rfl rfl) ?_
  refine WL_nil ?_
  refine WQ_code ?_
  refine WC_seq ?_
  refine WC_seq ?_
  refine WC_region ?_
  refine WL_val rfl rfl rfl (R_assign rfl rfl) ?_
  refine WL_nil ?_
  refine WQ_code ?_
  refine WC_block ?_
  refine WC_loopF (G := Nat) [16, 17, 87, 88, 89, 90, 91, 92, 93, 94, 95, 96, 97] (fun j => j ≤ W.length) (fun j => [(17, .int .i64 (j : Int)), (16, .int .i64 (tot (W.take j)))]) (fun j => []) (fun j => W.length - j) (0) (Nat.zero_le _) leZ (pqY) ?_
  rintro j hj
  refine WC_seq ?_
  refine WC_seq ?_
  refine WC_region ?_
  refine WL_val rfl rfl rfl (R_move rfl rfl) ?_
  refine WL_val rfl rfl rfl (R_move rfl rfl) ?_
  refine WL_val rfl rfl rfl (R_lss rfl rfl rfl) ?_
  refine WL_nil ?_
  refine WQ_code ?_
  refine WC_dec rfl (fun c1 => ?_) (fun c1 => ?_)
  · refine WC_skip ?_
    refine WQ_code ?_
    refine WC_seq ?_
    refine WC_block ?_
    refine WC_region ?_
    refine WL_val rfl rfl rfl (R_move rfl rfl) ?_
    refine WL_val rfl rfl rfl (R_move rfl rfl) ?_
    refine WL_val rfl rfl rfl (R_move rfl rfl) ?_
    obtain ⟨w9, hw9⟩ := getE (T := W) (i := j) (by omega)
    obtain ⟨lb, lk, lcs, le, lfr, rfl, rfl, hat⟩ := ha (by omega)
    have htn := tot_next hw9
    have hti := tot_take hV.2.2.1 j h8
    have hwr := hV.2.2.1 w9 (List.mem_of_getElem? hw9)
    refine WL_val rfl rfl rfl (R_indexAddrN rfl Try.underlying26 Try.sizeOf3 rfl rfl (by omega)) ?_
    refine WL_val rfl rfl rfl (R_loadG (v := .int .i64 w9) rfl sc3 rfl mmY (hat j w9 hw9)) ?_
    refine WL_val rfl rfl rfl (R_add rfl rfl rfl (by omega)) ?_
    refine WL_val rfl rfl rfl (R_assign rfl rfl) ?_
    refine WL_nil ?_
    refine WQ_code ?_
    refine WC_region ?_
    refine WL_val rfl rfl rfl (R_move rfl rfl) ?_
    refine WL_val rfl rfl rfl (R_add rfl rfl rfl (by omega)) ?_
    refine WL_val rfl rfl rfl (R_assign rfl rfl) ?_
    refine WL_nil ?_
    refine WQ_nextF (j + 1) (by omega) (by omega) leZ (psZ) rfl (pqY)
  · have hjl : W.take j = W := List.take_of_length_le (by omega)
    rw [hjl]
    refine WC_exit ?_
    refine WQ_code ?_
    refine WC_seq ?_
    refine WC_seq ?_
    refine WC_region ?_
    refine WL_val rfl rfl rfl (R_assign rfl rfl) ?_
    refine WL_nil ?_
    refine WQ_code ?_
    refine WC_block ?_
    refine WC_loopF (G := HrW) [8, 18, 19, 20, 21, 22, 23, 24, 25, 26, 98, 99, 100, 101, 102, 103, 104, 105, 106, 107, 108, 109, 110, 111, 112, 113, 114, 115, 116, 117, 118, 119, 120, 121, 122, 123, 124, 125, 126, 127, 128, 129, 130, 131, 132, 133, 134, 135, 136, 137, 138, 139, 140, 141, 142, 143, 144, 145, 146, 147, 148, 149, 150, 151, 152, 153, 154, 155, 156, 157, 158, 159, 160, 161, 162, 163, 164, 165, 166, 167, 168, 169] (fun y => y.r ≤ rd ∧ BIs y.na y.ma y.sa ∧ y.na ≤ 8 * y.r ∧ TurnOk W.length y.sa 0 ∧ y.ma.p = ma0.p ∧ BIs y.nb y.mb y.sb ∧ y.nb ≤ 800 * y.r ∧ WrrOk W y.sb 0 (List.replicate W.length 0) ∧ y.mb.p = mb0.p) (fun y => [(18, .int .i64 (y.r : Int))]) (fun y => balH y.ma ++ balH y.mb) (fun y => rd - y.r) (⟨0, ma0, bs0 1 W 1 1, 0, mb0, bs0 3 W 1 1, 0⟩) (⟨Nat.zero_le _, gma0, Nat.le_refl _, turn_start W, rfl, gmb0, Nat.le_refl _, wrr_start W (by omega), rfl⟩) leZ (pqY) ?_
    rintro y ⟨hyr, hya, hna, hta, hpa, hyb, hnb, htb, hpb⟩
    rw [← hpa, ← hpb]
    refine WC_seq ?_
    refine WC_seq ?_
    refine WC_region ?_
    refine WL_val rfl rfl rfl (R_move rfl rfl) ?_
    refine WL_val rfl rfl rfl (R_move rfl rfl) ?_
    refine WL_val rfl rfl rfl (R_conv (r := (rd : Int)) rfl Try.underlying5 Try.underlying3 rfl (wrap64_in (by omega) (by omega))) ?_
    refine WL_val rfl rfl rfl (R_lss rfl rfl rfl) ?_
    refine WL_nil ?_
    refine WQ_code ?_
    refine WC_dec rfl (fun c2 => ?_) (fun c2 => ?_)
    · refine WC_skip ?_
      refine WQ_code ?_
      refine WC_seq ?_
      refine WC_block ?_
      refine WC_seq ?_
      refine WC_seq ?_
      refine WC_region ?_
      refine WL_val rfl rfl rfl (R_assign rfl rfl) ?_
      refine WL_nil ?_
      refine WQ_code ?_
      refine WC_block ?_
      refine WC_loopF (G := HaW) [8, 19, 20, 21, 104, 105, 106, 107, 108, 109, 110, 111, 112, 113, 114, 115, 116, 117, 118, 119, 120, 121, 122] (fun za => za.i ≤ W.length ∧ BIs za.n za.m za.s ∧ za.n ≤ 8 * y.r + za.i ∧ TurnOk W.length za.s (if za.i = W.length then 0 else za.i) ∧ za.m.p = y.ma.p) (fun za => [(19, .int .i64 (za.i : Int))]) (fun za => balH za.m) (fun za => W.length - za.i) (⟨0, y.ma, y.sa, y.na⟩) (⟨Nat.zero_le _, hya, by dsimp only; omega, by dsimp only; rw [if_neg (by omega)]; exact hta, rfl⟩) leZ (pqY) ?_
      rintro za ⟨hzi0, hza, hzan, htza, hpza⟩
      rw [← hpza]
      refine WC_seq ?_
      refine WC_seq ?_
      refine WC_region ?_
      refine WL_val rfl rfl rfl (R_move rfl rfl) ?_
      refine WL_val rfl rfl rfl (R_move rfl rfl) ?_
      refine WL_val rfl rfl rfl (R_lss rfl rfl rfl) ?_
      refine WL_nil ?_
      refine WQ_code ?_
      refine WC_dec rfl (fun c3 => ?_) (fun c3 => ?_)
      · refine WC_skip ?_
        refine WQ_code ?_
        refine WC_seq ?_
        refine WC_block ?_
        refine WC_seq ?_
        refine WC_region ?_
        refine WL_val rfl rfl rfl (R_move rfl rfl) ?_
        refine WL_val rfl rfl rfl (R_move rfl rfl) ?_
        obtain ⟨hpi, hne, ht2⟩ := (show TurnOk W.length za.s za.i by rw [if_neg (by omega)] at htza; exact htza).hit (by omega) key
        rw [turnN_nat] at ht2
        refine WL_do rfl rfl rfl (D_call (bp_ok hza (by omega) 0 key hk (by rw [htza.last]; exact Nat.le_refl 0) (by decide) hne) rfl rfl rfl rfl (pqY)) ?_
        rintro _ _ ⟨_, ⟨m2, rfl, rfl, hp2, g2⟩, rfl⟩
        rw [hpi, ← hp2]
        refine WL_val rfl rfl rfl (R_move rfl rfl) ?_
        refine WL_val rfl rfl rfl (R_extract rfl rfl rfl) ?_
        refine WL_val rfl rfl rfl (R_extract rfl rfl rfl) ?_
        refine WL_do rfl rfl rfl (D_alloc rfl zv36) ?_
        rintro _ _ ⟨b1, rfl, rfl⟩
        refine WL_do0 rfl rfl (D_store (vs := [_, _]) rfl Try.sizeOf36 rfl rfl rfl rfl rfl (plY) (by exact Nat.le_of_ble_eq_true rfl)) ?_
        rintro _ _ rfl
        refine WL_val rfl rfl rfl (R_assign rfl rfl) ?_
        refine WL_nil ?_
        refine WQ_code ?_
        refine WC_seq ?_
        refine WC_region ?_
        refine WL_val rfl rfl rfl (R_fieldAddr rfl fa36_0 rfl) ?_
        refine WL_val rfl rfl rfl (R_load rfl sc3 rfl (mmY) rfl) ?_
        refine WL_val rfl rfl rfl (R_move rfl rfl) ?_
        refine WL_val rfl rfl rfl (R_neq rfl rfl rfl) ?_
        refine WL_set (s := 118) (v := .bool false) rfl (by simp) ?_
        refine WL_val rfl rfl rfl (R_move rfl rfl) ?_
        refine WL_val rfl rfl rfl (R_move rfl rfl) ?_
        refine WL_val rfl rfl rfl (R_neq rfl rfl rfl) ?_
        refine WL_val rfl rfl rfl (R_pickF rfl rfl rfl) ?_
        refine WL_nil ?_
        refine WQ_code ?_
        refine WC_dF rfl (by simp) ?_
        refine WC_skip ?_
        refine WQ_code ?_
        refine WC_region ?_
        refine WL_val rfl rfl rfl (R_move rfl rfl) ?_
        refine WL_val rfl rfl rfl (R_add rfl rfl rfl (by omega)) ?_
        refine WL_val rfl rfl rfl (R_assign rfl rfl) ?_
        refine WL_nil ?_
        refine WQ_nextF (⟨za.i + 1, m2, za.s.pick key 0, za.n + 1⟩) (⟨by dsimp only; omega, g2, by dsimp only; omega, ht2, rfl⟩) (by dsimp only; omega) leZ (psZ) rfl (pqY)
      · have hzi : za.i = W.length := by omega
        rw [if_pos hzi] at htza
        refine WC_exit ?_
        refine WQ_code ?_
        refine WC_seq ?_
        refine WC_region ?_
        refine WL_val rfl rfl rfl (R_move rfl rfl) ?_
        refine WL_do rfl rfl rfl (D_make (n := W.length) rfl si26 rfl rfl (by omega) (by omega)) ?_
        rintro _ _ ⟨b2, rfl, rfl⟩
        rw [show (List.replicate W.length [Value.int .i64 0]).flatten = ivs (List.replicate W.length 0) ++ [] from by rw [List.append_nil]; exact fm_rep (enc := encI) 0 W.length]
        refine WL_val rfl rfl rfl (R_assign rfl rfl) ?_
        refine WL_nil ?_
        refine WQ_code ?_
        refine WC_seq ?_
        refine WC_seq ?_
        refine WC_region ?_
        refine WL_val rfl rfl rfl (R_assign rfl rfl) ?_
        refine WL_nil ?_
        refine WQ_code ?_
        refine WC_block ?_
        refine WC_loopF (G := HbW) [8, 23, 24, 25, 125, 126, 127, 128, 129, 130, 131, 132, 133, 134, 135, 136, 137, 138, 139, 140, 141, 142, 143, 144, 145, 146, 147, 148, 149, 150, 151, 152, 153, 154, 155] (fun z => z.t ≤ S ∧ BIs z.n z.m z.s ∧ z.n ≤ 800 * y.r + z.t ∧ WrrOk W z.s z.t z.G ∧ z.m.p = y.mb.p) (fun z => [(23, .int .i64 (z.t : Int))]) (fun z => ⟨some b2, cl (ivs z.G ++ []) 3⟩ :: balH z.m) (fun z => S - z.t) (⟨0, y.mb, y.sb, y.nb, List.replicate W.length 0⟩) (⟨Nat.zero_le _, hyb, by dsimp only; omega, htb, rfl⟩) leZ (pqY) ?_
        rintro z ⟨hzt0, hz, hzn, hwz, hpz⟩
        rw [← hpz]
        refine WC_seq ?_
        refine WC_seq ?_
        refine WC_region ?_
        refine WL_val rfl rfl rfl (R_move rfl rfl) ?_
        refine WL_val rfl rfl rfl (R_move rfl rfl) ?_
        refine WL_val rfl rfl rfl (R_lss rfl rfl rfl) ?_
        refine WL_nil ?_
        refine WQ_code ?_
        refine WC_dec rfl (fun c4 => ?_) (fun c4 => ?_)
        · refine WC_skip ?_
          refine WQ_code ?_
          refine WC_seq ?_
          refine WC_block ?_
          refine WC_seq ?_
          refine WC_region ?_
          refine WL_val rfl rfl rfl (R_move rfl rfl) ?_
          refine WL_val rfl rfl rfl (R_move rfl rfl) ?_
          obtain ⟨i9, cc, hpi, hi9, hne, hgc, hw2⟩ := hwz.hit h1n (by omega) (hwz.pos hV.2.2.1) key
          have hcb := hwz.cb cc (List.mem_of_getElem? hgc)
          have hgl : i9 < z.G.length := by rw [hwz.gl]; exact hi9
          refine WL_do rfl rfl rfl (D_call (bp_ok hz (by omega) 0 key hk (by rw [hwz.last]; exact Nat.le_refl 0) (by decide) hne) rfl rfl rfl rfl (pqY)) ?_
          rintro _ _ ⟨_, ⟨m2, rfl, rfl, hp2, g2⟩, rfl⟩
          rw [hpi, ← hp2]
          refine WL_val rfl rfl rfl (R_move rfl rfl) ?_
          refine WL_val rfl rfl rfl (R_extract rfl rfl rfl) ?_
          refine WL_val rfl rfl rfl (R_extract rfl rfl rfl) ?_
          refine WL_do rfl rfl rfl (D_alloc rfl zv36) ?_
          rintro _ _ ⟨b3, rfl, rfl⟩
          refine WL_do0 rfl rfl (D_store (vs := [_, _]) rfl Try.sizeOf36 rfl rfl rfl rfl rfl (plY) (by exact Nat.le_of_ble_eq_true rfl)) ?_
          rintro _ _ rfl
          refine WL_val rfl rfl rfl (R_assign rfl rfl) ?_
          refine WL_nil ?_
          refine WQ_code ?_
          refine WC_seq ?_
          refine WC_seq ?_
          refine WC_region ?_
          refine WL_val rfl rfl rfl (R_move rfl rfl) ?_
          refine WL_val rfl rfl rfl (R_neq rfl rfl rfl) ?_
          refine WL_set (s := 137) (v := .bool false) rfl (by simp) ?_
          refine WL_val rfl rfl rfl (R_move rfl rfl) ?_
          refine WL_val rfl rfl rfl (R_fieldAddr rfl fa36_0 rfl) ?_
          refine WL_val rfl rfl rfl (R_load rfl sc3 rfl (mmY) rfl) ?_
          refine WL_val rfl rfl rfl (R_lss rfl rfl rfl) ?_
          refine WL_val rfl rfl rfl (R_pickF rfl rfl rfl) ?_
          refine WL_val rfl rfl rfl (R_move rfl rfl) ?_
          refine WL_set (s := 143) (v := .bool false) rfl (by exact congrArg Value.bool (decide_eq_false (by omega))) ?_
          refine WL_val rfl rfl rfl (R_fieldAddr rfl fa36_0 rfl) ?_
          refine WL_val rfl rfl rfl (R_load rfl sc3 rfl (mmY) rfl) ?_
          refine WL_val rfl rfl rfl (R_move rfl rfl) ?_
          refine WL_val rfl rfl rfl (R_geq rfl rfl rfl) ?_
          refine WL_val rfl rfl rfl (R_pickF rfl rfl rfl) ?_
          refine WL_nil ?_
          refine WQ_code ?_
          refine WC_dF rfl (by omega) ?_
          refine WC_skip ?_
          refine WQ_code ?_
          refine WC_region ?_
          refine WL_val rfl rfl rfl (R_move rfl rfl) ?_
          refine WL_val rfl rfl rfl (R_fieldAddr rfl fa36_0 rfl) ?_
          refine WL_val rfl rfl rfl (R_load rfl sc3 rfl (mmY) rfl) ?_
          refine WL_val rfl rfl rfl (R_indexAddrN rfl Try.underlying26 Try.sizeOf3 rfl rfl (by omega)) ?_
          refine WL_val rfl rfl rfl (R_load (v := .int .i64 cc) rfl sc3 rfl (mmY) (fm_get0 encI1 hgc (j := 0) (by omega))) ?_
          refine WL_val rfl rfl rfl (R_add rfl rfl rfl (by omega)) ?_
          refine WL_val rfl rfl rfl (R_indexAddrN rfl Try.underlying26 Try.sizeOf3 rfl rfl (by omega)) ?_
          refine WL_do0 rfl rfl (D_store (vs := [_]) rfl Try.sizeOf3 rfl rfl rfl rfl rfl (plY) (by exact fm_room0 encI1 hgl (j := 0) (by omega))) ?_
          rintro _ _ rfl
          have hput := fm_put0 encI1 (cc + 1) hgc (j := 0) (vs := [.int .i64 (cc + 1)]) (by simp) rfl (tl := [])
          rw [Nat.add_zero] at hput
          rw [hput]
          refine WL_nil ?_
          refine WQ_code ?_
          refine WC_region ?_
          refine WL_val rfl rfl rfl (R_move rfl rfl) ?_
          refine WL_val rfl rfl rfl (R_add rfl rfl rfl (by omega)) ?_
          refine WL_val rfl rfl rfl (R_assign rfl rfl) ?_
          refine WL_nil ?_
          refine WQ_nextF (⟨z.t + 1, m2, z.s.pick key 0, z.n + 1, z.G.set i9 (cc + 1)⟩) (⟨by dsimp only; omega, g2, by dsimp only; omega, hw2, rfl⟩) (by dsimp only; omega) leZ (psZ) rfl (pqY)
        · have hzt : z.t = S := by omega
          obtain ⟨hGW, hw3⟩ := wrr_end hwz (by rw [hzt, hS]) (by omega)
          rw [hGW]
          refine WC_exit ?_
          refine WQ_code ?_
          refine WC_seq ?_
          refine WC_region ?_
          refine WL_val rfl rfl rfl (R_assign rfl rfl) ?_
          refine WL_nil ?_
          refine WQ_code ?_
          refine WC_block ?_
          refine WC_loopF (G := Nat) [8, 26, 156, 157, 158, 159, 160, 161, 162, 163, 164, 165, 166, 167, 168, 169] (fun j => j ≤ W.length) (fun j => [(26, .int .i64 (j : Int))]) (fun j => []) (fun j => W.length - j) (0) (Nat.zero_le _) leZ (pqY) ?_
          rintro j hj
          refine WC_seq ?_
          refine WC_seq ?_
          refine WC_region ?_
          refine WL_val rfl rfl rfl (R_move rfl rfl) ?_
          refine WL_val rfl rfl rfl (R_move rfl rfl) ?_
          refine WL_val rfl rfl rfl (R_lss rfl rfl rfl) ?_
          refine WL_nil ?_
          refine WQ_code ?_
          refine WC_dec rfl (fun c5 => ?_) (fun c5 => ?_)
          · refine WC_skip ?_
            refine WQ_code ?_
            refine WC_seq ?_
            refine WC_block ?_
            refine WC_seq ?_
            refine WC_draw _ [(0, true), (1, true), (2, true), (3, true), (4, true), (5, true), (6, true), (7, true), (8, true)] followsMixed rfl rfl (by kernel_rfl) .all ?_
            refine WM_val rfl rfl rfl rfl (R_move rfl rfl) ?_
            refine WM_val rfl rfl rfl rfl (R_move rfl rfl) ?_
            obtain ⟨w9, hw9⟩ := getE (T := W) (i := j) (by omega)
            obtain ⟨lb, lk, lcs, le, lfr, rfl, rfl, hat⟩ := ha (by omega)
            refine WM_val rfl rfl rfl rfl (R_indexAddrN rfl Try.underlying26 Try.sizeOf3 rfl rfl (by omega)) ?_
            refine WM_val rfl rfl rfl rfl (R_load (v := .int .i64 w9) rfl sc3 rfl (mmY) (fm_get0 encI1 hw9 (j := 0) (by omega))) ?_
            refine WM_val rfl rfl rfl rfl (R_move rfl rfl) ?_
            refine WM_val rfl rfl rfl rfl (R_move rfl rfl) ?_
            refine WM_val rfl rfl rfl rfl (R_indexAddrN rfl Try.underlying26 Try.sizeOf3 rfl rfl (by omega)) ?_
            refine WM_val rfl rfl rfl rfl (R_loadG (v := .int .i64 w9) rfl sc3 rfl mmY (hat j w9 hw9)) ?_
            refine WM_val rfl rfl rfl rfl (R_neq rfl rfl rfl) ?_
            refine WM_nil ?_
            refine WQ_code ?_
            refine WC_dF rfl (by simp) ?_
            refine WC_skip ?_
            refine WQ_code ?_
            refine WC_region ?_
            refine WL_val rfl rfl rfl (R_move rfl rfl) ?_
            refine WL_val rfl rfl rfl (R_add rfl rfl rfl (by omega)) ?_
            refine WL_val rfl rfl rfl (R_assign rfl rfl) ?_
            refine WL_nil ?_
            refine WQ_nextF (j + 1) (by omega) (by omega) leZ (psZ) rfl (pqY)
          · refine WC_exit ?_
            refine WQ_code ?_
            refine WC_region ?_
            refine WL_val rfl rfl rfl (R_move rfl rfl) ?_
            refine WL_val rfl rfl rfl (R_add rfl rfl rfl (by omega)) ?_
            refine WL_val rfl rfl rfl (R_assign rfl rfl) ?_
            refine WL_nil ?_
            refine WQ_nextF (⟨y.r + 1, za.m, za.s, za.n, z.m, z.s, z.n⟩) (⟨by dsimp only; omega, hza, by dsimp only; omega, htza, rfl, hz, by dsimp only; omega, hw3, rfl⟩) (by dsimp only; omega) leZ (psZ) rfl (pqY)
    · refine WC_exit ?_
      refine WQ_code ?_
      refine WC_seq ?_
      refine WC_region ?_
      refine WL_val rfl rfl rfl (R_move rfl rfl) ?_
      refine WL_val rfl rfl rfl (R_move rfl rfl) ?_
      have hh0 := hash_start W
      obtain ⟨q1, e1, hh1⟩ := hh0.hit h1n key
      rw [hx9] at e1
      obtain ⟨q2, e2, hh2⟩ := hh1.hit h1n key
      rw [hx9] at e2
      refine WL_do rfl rfl rfl (D_call (bp_ok gmc0 (by decide) 0 key hk (by rw [hh0.last]; exact Nat.le_refl 0) (by decide) q1) rfl rfl rfl rfl (pqY)) ?_
      rintro _ _ ⟨_, ⟨mc1, rfl, rfl, pc1, gc1⟩, rfl⟩
      rw [e1, ← pc1]
      refine WL_val rfl rfl rfl (R_move rfl rfl) ?_
      refine WL_val rfl rfl rfl (R_extract rfl rfl rfl) ?_
      refine WL_val rfl rfl rfl (R_extract rfl rfl rfl) ?_
      refine WL_do rfl rfl rfl (D_alloc rfl zv36) ?_
      rintro _ _ ⟨b4, rfl, rfl⟩
      refine WL_do0 rfl rfl (D_store (vs := [_, _]) rfl Try.sizeOf36 rfl rfl rfl rfl rfl (plY) (by exact Nat.le_of_ble_eq_true rfl)) ?_
      rintro _ _ rfl
      refine WL_val rfl rfl rfl (R_assign rfl rfl) ?_
      refine WL_nil ?_
      refine WQ_code ?_
      refine WC_seq ?_
      refine WC_region ?_
      refine WL_val rfl rfl rfl (R_move rfl rfl) ?_
      refine WL_val rfl rfl rfl (R_move rfl rfl) ?_
      refine WL_do rfl rfl rfl (D_call (bp_ok gc1 (by decide) 0 key hk (by rw [hh1.last]; exact Nat.le_refl 0) (by decide) q2) rfl rfl rfl rfl (pqY)) ?_
      rintro _ _ ⟨_, ⟨mc2, rfl, rfl, pc2, gc2⟩, rfl⟩
      rw [e2, ← pc2]
      refine WL_val rfl rfl rfl (R_move rfl rfl) ?_
      refine WL_val rfl rfl rfl (R_extract rfl rfl rfl) ?_
      refine WL_val rfl rfl rfl (R_extract rfl rfl rfl) ?_
      refine WL_do rfl rfl rfl (D_alloc rfl zv36) ?_
      rintro _ _ ⟨b5, rfl, rfl⟩
      refine WL_do0 rfl rfl (D_store (vs := [_, _]) rfl Try.sizeOf36 rfl rfl rfl rfl rfl (plY) (by exact Nat.le_of_ble_eq_true rfl)) ?_
      rintro _ _ rfl
      refine WL_val rfl rfl rfl (R_assign rfl rfl) ?_
      refine WL_nil ?_
      refine WQ_code ?_
      refine WC_seq ?_
      refine WC_region ?_
      refine WL_val rfl rfl rfl (R_move rfl rfl) ?_
      refine WL_val rfl rfl rfl (R_conv (r := (ou : Int)) rfl Try.underlying5 Try.underlying3 rfl (wrap64_in (by omega) (by omega))) ?_
      refine WL_val rfl rfl rfl (R_move rfl rfl) ?_
      refine WL_val rfl rfl rfl (R_remR (r := ((ou % W.length : Nat) : Int)) rfl rfl rfl (by omega) (remN)) ?_
      refine WL_val rfl rfl rfl (R_assign rfl rfl) ?_
      refine WL_nil ?_
      refine WQ_code ?_
      refine WC_seq ?_
      refine WC_seq ?_
      refine WC_region ?_
      refine WL_val rfl rfl rfl (R_move rfl rfl) ?_
      refine WL_val rfl rfl rfl (R_neq rfl rfl rfl) ?_
      refine WL_val rfl rfl rfl (R_move rfl rfl) ?_
      refine WL_set (s := 188) (v := .bool false) rfl (by simp) ?_
      refine WL_val rfl rfl rfl (R_move rfl rfl) ?_
      refine WL_val rfl rfl rfl (R_neq rfl rfl rfl) ?_
      refine WL_val rfl rfl rfl (R_pickF rfl rfl rfl) ?_
      refine WL_val rfl rfl rfl (R_move rfl rfl) ?_
      refine WL_set (s := 192) (v := .bool false) rfl (by simp) ?_
      refine WL_val rfl rfl rfl (R_fieldAddr rfl fa36_0 rfl) ?_
      refine WL_val rfl rfl rfl (R_load rfl sc3 rfl (mmY) rfl) ?_
      refine WL_val rfl rfl rfl (R_fieldAddr rfl fa36_0 rfl) ?_
      refine WL_val rfl rfl rfl (R_load rfl sc3 rfl (mmY) rfl) ?_
      refine WL_val rfl rfl rfl (R_neq rfl rfl rfl) ?_
      refine WL_set (s := 197) (v := .bool false) rfl (by simp) ?_
      refine WL_val rfl rfl rfl (R_pickF rfl rfl rfl) ?_
      refine WL_val rfl rfl rfl (R_move rfl rfl) ?_
      refine WL_val rfl rfl rfl (R_move rfl rfl) ?_
      refine WL_val rfl rfl rfl (R_move rfl rfl) ?_
      refine WL_do rfl rfl rfl (D_call (bs_ok gc2 (ou % W.length) (by rw [hh2.n]; exact hgn) false) rfl rfl rfl rfl (pqY)) ?_
      rintro _ _ ⟨_, ⟨mc3, rfl, rfl, pc3, gc3⟩, rfl⟩
      rw [← pc3]
      refine WL_val rfl rfl rfl (R_neq rfl rfl rfl) ?_
      refine WL_set (s := 203) (v := .bool false) rfl (by simp) ?_
      refine WL_val rfl rfl rfl (R_pickF rfl rfl rfl) ?_
      refine WL_nil ?_
      refine WQ_code ?_
      refine WC_F rfl ?_
      refine WC_skip ?_
      refine WQ_code ?_
      refine WC_seq ?_
      refine WC_region ?_
      refine WL_val rfl rfl rfl (R_move rfl rfl) ?_
      refine WL_val rfl rfl rfl (R_move rfl rfl) ?_
      refine WL_do rfl rfl rfl (D_call (pick_last hh2 hgn gc3 (by decide) key hk (x9 : Int) hx9) rfl rfl rfl rfl (pqY)) ?_
      rintro _ _ ⟨_, (⟨hn1, rfl⟩ | ⟨hn1, z9, c9, rfl, hz1, hz2⟩), rfl⟩
      · refine WL_val rfl rfl rfl (R_move rfl rfl) ?_
        refine WL_val rfl rfl rfl (R_extract rfl rfl rfl) ?_
        refine WL_val rfl rfl rfl (R_extract rfl rfl rfl) ?_
        refine WL_do rfl rfl rfl (D_alloc rfl zv36) ?_
        rintro _ _ ⟨b6, rfl, rfl⟩
        refine WL_do0 rfl rfl (D_store (vs := [_, _]) rfl Try.sizeOf36 rfl rfl rfl rfl rfl (plY) (by exact Nat.le_of_ble_eq_true rfl)) ?_
        rintro _ _ rfl
        refine WL_val rfl rfl rfl (R_assign rfl rfl) ?_
        refine WL_nil ?_
        refine WQ_code ?_
        refine WC_seq ?_
        refine WC_seq ?_
        refine WC_region ?_
        refine WL_val rfl rfl rfl (R_move rfl rfl) ?_
        refine WL_val rfl rfl rfl (R_eql rfl rfl rfl) ?_
        refine WL_nil ?_
        refine WQ_code ?_
        refine WC_dT rfl (by omega) ?_
        refine WC_seq ?_
        refine WC_region ?_
        refine WL_val rfl rfl rfl (R_move rfl rfl) ?_
        refine WL_val rfl rfl rfl (R_eql rfl rfl rfl) ?_
        refine WL_val rfl rfl rfl (R_move rfl rfl) ?_
        refine WL_set (s := 215) (v := .bool true) rfl (by simp) ?_
        refine WL_do rfl rfl rfl (D_call (known_ok) rfl rfl rfl rfl (pqY)) ?_
        rintro _ _ ⟨_, ⟨rfl, rfl⟩, rfl⟩
        refine WL_val rfl rfl rfl (R_pickT rfl rfl rfl) ?_
        refine WL_val rfl rfl rfl (R_assign rfl rfl) ?_
        refine WL_nil ?_
        refine WQ_code ?_
        refine WC_ret ?_
        refine WQ_ret rfl rfl (.cons (.tmp rfl) .nil) rfl (by
            exact ⟨rfl, rfl⟩) (pqY)
      · refine WL_val rfl rfl rfl (R_move rfl rfl) ?_
        refine WL_val rfl rfl rfl (R_extract rfl rfl rfl) ?_
        refine WL_val rfl rfl rfl (R_extract rfl rfl rfl) ?_
        refine WL_do rfl rfl rfl (D_alloc rfl zv36) ?_
        rintro _ _ ⟨b7, rfl, rfl⟩
        refine WL_do0 rfl rfl (D_store (vs := [_, _]) rfl Try.sizeOf36 rfl rfl rfl rfl rfl (plY) (by exact Nat.le_of_ble_eq_true rfl)) ?_
        rintro _ _ rfl
        refine WL_val rfl rfl rfl (R_assign rfl rfl) ?_
        refine WL_nil ?_
        refine WQ_code ?_
        refine WC_seq ?_
        refine WC_seq ?_
        refine WC_region ?_
        refine WL_val rfl rfl rfl (R_move rfl rfl) ?_
        refine WL_val rfl rfl rfl (R_eql rfl rfl rfl) ?_
        refine WL_nil ?_
        refine WQ_code ?_
        refine WC_dF rfl (by omega) ?_
        refine WC_skip ?_
        refine WQ_code ?_
        refine WC_seq ?_
        refine WC_region ?_
        refine WL_val rfl rfl rfl (R_move rfl rfl) ?_
        refine WL_val rfl rfl rfl (R_eql rfl rfl rfl) ?_
        refine WL_val rfl rfl rfl (R_move rfl rfl) ?_
        refine WL_set (s := 220) (v := .bool true) rfl (by simp) ?_
        refine WL_val rfl rfl rfl (R_fieldAddr rfl fa36_0 rfl) ?_
        refine WL_val rfl rfl rfl (R_load rfl sc3 rfl (mmY) rfl) ?_
        refine WL_val rfl rfl rfl (R_move rfl rfl) ?_
        refine WL_val rfl rfl rfl (R_neq rfl rfl rfl) ?_
        refine WL_val rfl rfl rfl (R_pickT rfl rfl rfl) ?_
        refine WL_val rfl rfl rfl (R_move rfl rfl) ?_
        refine WL_set (s := 226) (v := .bool true) rfl (by exact congrArg Value.bool (decide_eq_true hz1)) ?_
        refine WL_val rfl rfl rfl (R_fieldAddr rfl fa36_0 rfl) ?_
        refine WL_val rfl rfl rfl (R_load rfl sc3 rfl (mmY) rfl) ?_
        refine WL_val rfl rfl rfl (R_move rfl rfl) ?_
        refine WL_val rfl rfl rfl (R_eql rfl rfl rfl) ?_
        refine WL_val rfl rfl rfl (R_move rfl rfl) ?_
        refine WL_splitD (s := 231) rfl (fun c6 => ?_) (fun c6 => ?_)
        · refine WL_skip rfl rfl rfl ?_
          refine WL_skip rfl rfl rfl ?_
          refine WL_skip rfl rfl rfl ?_
          refine WL_skip rfl rfl rfl ?_
          refine WL_skip rfl rfl rfl ?_
          refine WL_val rfl rfl rfl (R_pickT rfl rfl rfl) ?_
          refine WL_val rfl rfl rfl (R_pickT rfl rfl rfl) ?_
          refine WL_val rfl rfl rfl (R_move rfl rfl) ?_
          refine WL_do rfl rfl rfl (D_call (known_ok) rfl rfl rfl rfl (pqY)) ?_
          rintro _ _ ⟨_, ⟨rfl, rfl⟩, rfl⟩
          refine WL_val rfl rfl rfl (R_pickT rfl rfl rfl) ?_
          refine WL_val rfl rfl rfl (R_assign rfl rfl) ?_
          refine WL_nil ?_
          refine WQ_code ?_
          refine WC_ret ?_
          refine WQ_ret rfl rfl (.cons (.tmp rfl) .nil) rfl (by
              exact ⟨rfl, rfl⟩) (pqY)
        · have hxg : (x9 : Int) ≠ ((ou % W.length : Nat) : Int) := c6
          refine WL_val rfl rfl rfl (R_fieldAddr rfl fa36_0 rfl) ?_
          refine WL_val rfl rfl rfl (R_load rfl sc3 rfl (mmY) rfl) ?_
          refine WL_val rfl rfl rfl (R_fieldAddr rfl fa36_0 rfl) ?_
          refine WL_val rfl rfl rfl (R_load rfl sc3 rfl (mmY) rfl) ?_
          refine WL_val rfl rfl rfl (R_eql rfl rfl rfl) ?_
          refine WL_set (s := 236) (v := .bool true) rfl (by exact congrArg Value.bool (decide_eq_true (hz2 hxg))) ?_
          refine WL_val rfl rfl rfl (R_pickF rfl rfl rfl) ?_
          refine WL_val rfl rfl rfl (R_pickT rfl rfl rfl) ?_
          refine WL_val rfl rfl rfl (R_move rfl rfl) ?_
          refine WL_do rfl rfl rfl (D_call (known_ok) rfl rfl rfl rfl (pqY)) ?_
          rintro _ _ ⟨_, ⟨rfl, rfl⟩, rfl⟩
          refine WL_val rfl rfl rfl (R_pickT rfl rfl rfl) ?_
          refine WL_val rfl rfl rfl (R_assign rfl rfl) ?_
          refine WL_nil ?_
          refine WQ_code ?_
          refine WC_ret ?_
          refine WQ_ret rfl rfl (.cons (.tmp rfl) .nil) rfl (by
              exact ⟨rfl, rfl⟩) (pqY)

end Go.Proofs.Ytiokpmgbabpikaa
