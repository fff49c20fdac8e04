/-
  Chapter 48 (balance), part Known: contracts of functions that the laws call, each for the heap it names.
-/
import Derived.Test.YtiokpmgbabpikaaRows
import Derived.Test.YtiokpmgbabpikaaZSLOpt
import Derived.Test.YtiokpmgbabpikaaTab
import Derived.Test.YtiokpmgbabpikaaBalV
import Derived.Test.YtiokpmgbabpikaaZSLArg
set_option linter.unusedVariables false
set_option maxRecDepth 20000
set_option maxHeartbeats 4000000
namespace Go.Proofs.Ytiokpmgbabpikaa


theorem bnew_is (k : Nat) (hk : 1 ≤ k ∧ k ≤ 4) (W : List Int) (oa : Option Addr) (c : Nat) (ent : Ent) (ha : Rd oa ent W) (limit : Int) (op : Nat) (h : 1 ≤ W.length ∧ W.length ≤ 64) (hR : OkR limit 1 op) (hW : ∀ w ∈ W, 1 ≤ w ∧ w ≤ 100) : Spec Try.prog 11 [.int .i64 (k : Int), .slice oa W.length c, .int .i64 limit, .int .u64 (op : Int)] [ent]
    (fun r H' => ∃ m, r = .tuple #[ptrB m.p, .int .i64 0] ∧ H' = ent :: balH m ∧ BIs 0 m (bs0 k W limit op)) :=
  (bnew_ok k hk W oa c ent ha limit op h hR hW).mono fun r H' ⟨m, h1, h2, h3, h4, h5, h6, h7, h8, h9⟩ => ⟨m, h1, h2, h3, h4, h9, h6, h7, h8⟩
abbrev em : ByteArray := ⟨#[]⟩
theorem picks_run {N : Nat} {m : Bm} {s : BS} (h : BIs N m s) (hN : N ≤ 9000) (now : Nat) (want call : Int) (h1 : s.last ≤ now) (h2 : now ≤ 18446744073709551614) (hne : s.cand now ≠ []) (hi : s.pickI em now = want) (hc : ((s.gv + 1 : Nat) : Int) = call) :
    Spec Try.prog 21 [ptrB m.p, .int .u64 (now : Int), .int .i64 want, .int .i64 call] (balH m) (fun r H' => r = .bool true ∧ ∃ m', H' = balH m' ∧ m'.p = m.p ∧ BIs (N + 1) m' (s.pick em now)) := by
  subst hi
  subst hc
  refine Spec.of (E := [(0, ptrB m.p), (1, .int .u64 (now : Int)), (2, .int .i64 (s.pickI em now)), (3, .int .i64 ((s.gv + 1 : Nat) : Int))]) Try.func21 rfl (by kernel_rfl) Try.ntmps21 rfl rfl (fun w => ?_)
  refine WC_seq ?_
  refine WC_region ?_
  refine WL_val rfl rfl rfl (R_assign rfl rfl) ?_
  refine WL_nil ?_
  refine WQ_code ?_
  refine WC_seq ?_
  refine WC_region ?_
  refine WL_val rfl rfl rfl (R_move rfl rfl) ?_
  refine WL_val rfl rfl rfl (R_move rfl rfl) ?_
  refine WL_do rfl rfl rfl (D_call (bp_ok h hN now em (by decide) h1 h2 hne) rfl rfl rfl rfl (pqY)) ?_
  rintro _ _ ⟨_, ⟨m2, rfl, rfl, hp2, g2⟩, rfl⟩
  refine WL_val rfl rfl rfl (R_move rfl rfl) ?_
  refine WL_val rfl rfl rfl (R_extract rfl rfl rfl) ?_
  refine WL_val rfl rfl rfl (R_extract rfl rfl rfl) ?_
  refine WL_do rfl rfl rfl (D_alloc rfl zv36) ?_
  rintro _ _ ⟨b1, rfl, rfl⟩
  refine WL_do0 rfl rfl (D_store (vs := [_, _]) rfl Try.sizeOf36 rfl rfl rfl rfl rfl (plY) (by exact Nat.le_of_ble_eq_true rfl)) ?_
  rintro _ _ rfl
  refine WL_val rfl rfl rfl (R_assign rfl rfl) ?_
  refine WL_nil ?_
  refine WQ_code ?_
  refine WC_seq ?_
  refine WC_region ?_
  refine WL_val rfl rfl rfl (R_loadA (vs := [_, _]) rfl ag36 rfl (mmY) rfl (atZ)) ?_
  refine WL_val rfl rfl rfl (R_move rfl rfl) ?_
  refine WL_val rfl rfl rfl (R_move rfl rfl) ?_
  refine WL_val rfl rfl rfl (R_build rfl zv36 pl36 rfl rfl) ?_
  refine WL_val rfl rfl rfl (R_seq36 rfl rfl rfl rfl) ?_
  refine WL_set (s := 21) (v := .bool true) rfl (by simp) ?_
  refine WL_val rfl rfl rfl (R_move rfl rfl) ?_
  refine WL_val rfl rfl rfl (R_move rfl rfl) ?_
  refine WL_val rfl rfl rfl (R_eql rfl rfl rfl) ?_
  refine WL_set (s := 24) (v := .bool true) rfl (by simp) ?_
  refine WL_val rfl rfl rfl (R_pickT rfl rfl rfl) ?_
  refine WL_val rfl rfl rfl (R_assign rfl rfl) ?_
  refine WL_nil ?_
  refine WQ_code ?_
  refine WC_ret ?_
  refine WQ_ret rfl rfl (.cons (.tmp rfl) .nil) rfl (by
      exact ⟨rfl, m2, rfl, hp2, g2⟩) (pqY)
def ka0 : BS := bs0 1 [1, 1, 1] 1 10
def ka1 : BS := ka0.pick em 0
def ka2 : BS := ka1.pick em 0
def ka3 : BS := ka2.pick em 0
def ka4 : BS := ka3.setup 1 false
def ka5 : BS := ka4.pick em 0
def ka6 : BS := ka5.pick em 0
def kb0 : BS := bs0 3 [3, 1] 1 10
def kb1 : BS := kb0.pick em 0
def kb2 : BS := kb1.pick em 0
def kb3 : BS := kb2.pick em 0
def kb4 : BS := kb3.pick em 0
def kc0 : BS := bs0 2 [2, 1] 1 10
def kc1 : BS := kc0.pick em 0
def kc2 : BS := kc1.pick em 0
def kc3 : BS := kc2.pick em 0
def kc4 : BS := kc3.done 0 2 1 0 true
def kc5 : BS := kc4.pick em 0
def kd0 : BS := bs0 1 [1, 1] 1 10
def kd1 : BS := kd0.pick em 0
def kd2 : BS := kd1.done 0 1 0 0 false
def kd3 : BS := kd2.pick em 1
def kd4 : BS := kd3.pick em 2
def kd5 : BS := kd4.pick em 10
theorem known_ok : Spec Try.prog 9 [] [] (fun r H' => r = .bool true ∧ H' = []) := by
  refine Spec.of (E := []) Try.func9 rfl (by kernel_rfl) Try.ntmps9 rfl rfl (fun w => ?_)
  refine WC_seq ?_
  refine WC_region ?_
  refine WL_val rfl rfl rfl (R_assign rfl rfl) ?_
  refine WL_nil ?_
  refine WQ_code ?_
  refine WC_seq ?_
  refine WC_region ?_
  refine WL_do rfl rfl rfl (D_buildSlice rfl si26 rfl rfl rfl) ?_
  rintro _ _ ⟨b1, rfl, rfl⟩
  refine WL_do rfl rfl rfl (D_call (bnew_is 1 (by decide) [1, 1, 1] _ _ _ (Rd.own (e := 3) (own_lit _ [1, 1, 1] (Nat.le_of_ble_eq_true rfl))) 1 10 (by decide) (by decide) (by decide)) rfl rfl rfl rfl (pqY)) ?_
  rintro _ _ ⟨_, ⟨mka0, rfl, rfl, gka0⟩, rfl⟩
  have gka0 : BIs 0 mka0 ka0 := gka0
  refine WL_val rfl rfl rfl (R_move rfl rfl) ?_
  refine WL_val rfl rfl rfl (R_extract rfl rfl rfl) ?_
  refine WL_val rfl rfl rfl (R_extract rfl rfl rfl) ?_
  refine WL_val rfl rfl rfl (R_assign rfl rfl) ?_
  refine WL_val rfl rfl rfl (R_assign rfl rfl) ?_
  refine WL_nil ?_
  refine WQ_code ?_
  refine WC_seq ?_
  refine WC_seq ?_
  refine WC_region ?_
  refine WL_val rfl rfl rfl (R_move rfl rfl) ?_
  refine WL_val rfl rfl rfl (R_neq rfl rfl rfl) ?_
  refine WL_set (s := 12) (v := .bool false) rfl (by simp) ?_
  refine WL_val rfl rfl rfl (R_move rfl rfl) ?_
  refine WL_val rfl rfl rfl (R_move rfl rfl) ?_
  refine WL_do rfl rfl rfl (D_call (picks_run gka0 (by decide) 0 0 1 (by decide) (by decide) (by decide) (by decide) (by decide)) rfl rfl rfl rfl (pqY)) ?_
  rintro _ _ ⟨_, ⟨rfl, mka1, rfl, pka1, gka1⟩, rfl⟩
  rw [← pka1]
  have gka1 : BIs _ mka1 ka1 := gka1
  refine WL_val rfl rfl rfl (R_not rfl rfl) ?_
  refine WL_val rfl rfl rfl (R_pickF rfl rfl rfl) ?_
  refine WL_val rfl rfl rfl (R_move rfl rfl) ?_
  refine WL_val rfl rfl rfl (R_move rfl rfl) ?_
  refine WL_do rfl rfl rfl (D_call (picks_run gka1 (by decide) 0 1 2 (by decide) (by decide) (by decide) (by decide) (by decide)) rfl rfl rfl rfl (pqY)) ?_
  rintro _ _ ⟨_, ⟨rfl, mka2, rfl, pka2, gka2⟩, rfl⟩
  rw [← pka2]
  have gka2 : BIs _ mka2 ka2 := gka2
  refine WL_val rfl rfl rfl (R_not rfl rfl) ?_
  refine WL_val rfl rfl rfl (R_pickF rfl rfl rfl) ?_
  refine WL_val rfl rfl rfl (R_move rfl rfl) ?_
  refine WL_val rfl rfl rfl (R_move rfl rfl) ?_
  refine WL_do rfl rfl rfl (D_call (picks_run gka2 (by decide) 0 2 3 (by decide) (by decide) (by decide) (by decide) (by decide)) rfl rfl rfl rfl (pqY)) ?_
  rintro _ _ ⟨_, ⟨rfl, mka3, rfl, pka3, gka3⟩, rfl⟩
  rw [← pka3]
  have gka3 : BIs _ mka3 ka3 := gka3
  refine WL_val rfl rfl rfl (R_not rfl rfl) ?_
  refine WL_val rfl rfl rfl (R_pickF rfl rfl rfl) ?_
  refine WL_val rfl rfl rfl (R_move rfl rfl) ?_
  refine WL_val rfl rfl rfl (R_move rfl rfl) ?_
  refine WL_do rfl rfl rfl (D_call (bs_ok gka3 1 (by decide) false) rfl rfl rfl rfl (pqY)) ?_
  rintro _ _ ⟨_, ⟨mka4, rfl, rfl, pka4, gka4⟩, rfl⟩
  rw [← pka4]
  have gka4 : BIs _ mka4 ka4 := gka4
  refine WL_val rfl rfl rfl (R_neq rfl rfl rfl) ?_
  refine WL_set (s := 31) (v := .bool false) rfl (by simp) ?_
  refine WL_val rfl rfl rfl (R_pickF rfl rfl rfl) ?_
  refine WL_val rfl rfl rfl (R_move rfl rfl) ?_
  refine WL_val rfl rfl rfl (R_move rfl rfl) ?_
  refine WL_do rfl rfl rfl (D_call (picks_run gka4 (by decide) 0 0 4 (by decide) (by decide) (by decide) (by decide) (by decide)) rfl rfl rfl rfl (pqY)) ?_
  rintro _ _ ⟨_, ⟨rfl, mka5, rfl, pka5, gka5⟩, rfl⟩
  rw [← pka5]
  have gka5 : BIs _ mka5 ka5 := gka5
  refine WL_val rfl rfl rfl (R_not rfl rfl) ?_
  refine WL_val rfl rfl rfl (R_pickF rfl rfl rfl) ?_
  refine WL_val rfl rfl rfl (R_move rfl rfl) ?_
  refine WL_val rfl rfl rfl (R_move rfl rfl) ?_
  refine WL_do rfl rfl rfl (D_call (picks_run gka5 (by decide) 0 2 5 (by decide) (by decide) (by decide) (by decide) (by decide)) rfl rfl rfl rfl (pqY)) ?_
  rintro _ _ ⟨_, ⟨rfl, mka6, rfl, pka6, gka6⟩, rfl⟩
  rw [← pka6]
  have gka6 : BIs _ mka6 ka6 := gka6
  refine WL_val rfl rfl rfl (R_not rfl rfl) ?_
  refine WL_val rfl rfl rfl (R_pickF rfl rfl rfl) ?_
  refine WL_nil ?_
  refine WQ_code ?_
  refine WC_F rfl ?_
  refine WC_skip ?_
  refine WQ_code ?_
  refine WC_seq ?_
  refine WC_region ?_
  refine WL_do rfl rfl rfl (D_buildSlice rfl si26 rfl rfl rfl) ?_
  rintro _ _ ⟨b2, rfl, rfl⟩
  refine WL_do rfl rfl rfl (D_call (bnew_is 3 (by decide) [3, 1] _ _ _ (Rd.own (e := 3) (own_lit _ [3, 1] (Nat.le_of_ble_eq_true rfl))) 1 10 (by decide) (by decide) (by decide)) rfl rfl rfl rfl (pqY)) ?_
  rintro _ _ ⟨_, ⟨mkb0, rfl, rfl, gkb0⟩, rfl⟩
  have gkb0 : BIs 0 mkb0 kb0 := gkb0
  refine WL_val rfl rfl rfl (R_move rfl rfl) ?_
  refine WL_val rfl rfl rfl (R_extract rfl rfl rfl) ?_
  refine WL_val rfl rfl rfl (R_extract rfl rfl rfl) ?_
  refine WL_val rfl rfl rfl (R_assign rfl rfl) ?_
  refine WL_val rfl rfl rfl (R_assign rfl rfl) ?_
  refine WL_nil ?_
  refine WQ_code ?_
  refine WC_seq ?_
  refine WC_seq ?_
  refine WC_region ?_
  refine WL_val rfl rfl rfl (R_move rfl rfl) ?_
  refine WL_val rfl rfl rfl (R_neq rfl rfl rfl) ?_
  refine WL_set (s := 49) (v := .bool false) rfl (by simp) ?_
  refine WL_val rfl rfl rfl (R_move rfl rfl) ?_
  refine WL_val rfl rfl rfl (R_move rfl rfl) ?_
  refine WL_do rfl rfl rfl (D_call (picks_run gkb0 (by decide) 0 0 1 (by decide) (by decide) (by decide) (by decide) (by decide)) rfl rfl rfl rfl (pqY)) ?_
  rintro _ _ ⟨_, ⟨rfl, mkb1, rfl, pkb1, gkb1⟩, rfl⟩
  rw [← pkb1]
  have gkb1 : BIs _ mkb1 kb1 := gkb1
  refine WL_val rfl rfl rfl (R_not rfl rfl) ?_
  refine WL_val rfl rfl rfl (R_pickF rfl rfl rfl) ?_
  refine WL_val rfl rfl rfl (R_move rfl rfl) ?_
  refine WL_val rfl rfl rfl (R_move rfl rfl) ?_
  refine WL_do rfl rfl rfl (D_call (picks_run gkb1 (by decide) 0 0 2 (by decide) (by decide) (by decide) (by decide) (by decide)) rfl rfl rfl rfl (pqY)) ?_
  rintro _ _ ⟨_, ⟨rfl, mkb2, rfl, pkb2, gkb2⟩, rfl⟩
  rw [← pkb2]
  have gkb2 : BIs _ mkb2 kb2 := gkb2
  refine WL_val rfl rfl rfl (R_not rfl rfl) ?_
  refine WL_val rfl rfl rfl (R_pickF rfl rfl rfl) ?_
  refine WL_val rfl rfl rfl (R_move rfl rfl) ?_
  refine WL_val rfl rfl rfl (R_move rfl rfl) ?_
  refine WL_do rfl rfl rfl (D_call (picks_run gkb2 (by decide) 0 1 3 (by decide) (by decide) (by decide) (by decide) (by decide)) rfl rfl rfl rfl (pqY)) ?_
  rintro _ _ ⟨_, ⟨rfl, mkb3, rfl, pkb3, gkb3⟩, rfl⟩
  rw [← pkb3]
  have gkb3 : BIs _ mkb3 kb3 := gkb3
  refine WL_val rfl rfl rfl (R_not rfl rfl) ?_
  refine WL_val rfl rfl rfl (R_pickF rfl rfl rfl) ?_
  refine WL_val rfl rfl rfl (R_move rfl rfl) ?_
  refine WL_val rfl rfl rfl (R_move rfl rfl) ?_
  refine WL_do rfl rfl rfl (D_call (picks_run gkb3 (by decide) 0 0 4 (by decide) (by decide) (by decide) (by decide) (by decide)) rfl rfl rfl rfl (pqY)) ?_
  rintro _ _ ⟨_, ⟨rfl, mkb4, rfl, pkb4, gkb4⟩, rfl⟩
  rw [← pkb4]
  have gkb4 : BIs _ mkb4 kb4 := gkb4
  refine WL_val rfl rfl rfl (R_not rfl rfl) ?_
  refine WL_val rfl rfl rfl (R_pickF rfl rfl rfl) ?_
  refine WL_nil ?_
  refine WQ_code ?_
  refine WC_F rfl ?_
  refine WC_skip ?_
  refine WQ_code ?_
  refine WC_seq ?_
  refine WC_region ?_
  refine WL_do rfl rfl rfl (D_buildSlice rfl si26 rfl rfl rfl) ?_
  rintro _ _ ⟨b3, rfl, rfl⟩
  refine WL_do rfl rfl rfl (D_call (bnew_is 2 (by decide) [2, 1] _ _ _ (Rd.own (e := 3) (own_lit _ [2, 1] (Nat.le_of_ble_eq_true rfl))) 1 10 (by decide) (by decide) (by decide)) rfl rfl rfl rfl (pqY)) ?_
  rintro _ _ ⟨_, ⟨mkc0, rfl, rfl, gkc0⟩, rfl⟩
  have gkc0 : BIs 0 mkc0 kc0 := gkc0
  refine WL_val rfl rfl rfl (R_move rfl rfl) ?_
  refine WL_val rfl rfl rfl (R_extract rfl rfl rfl) ?_
  refine WL_val rfl rfl rfl (R_extract rfl rfl rfl) ?_
  refine WL_val rfl rfl rfl (R_assign rfl rfl) ?_
  refine WL_val rfl rfl rfl (R_assign rfl rfl) ?_
  refine WL_nil ?_
  refine WQ_code ?_
  refine WC_seq ?_
  refine WC_seq ?_
  refine WC_region ?_
  refine WL_val rfl rfl rfl (R_move rfl rfl) ?_
  refine WL_val rfl rfl rfl (R_neq rfl rfl rfl) ?_
  refine WL_set (s := 76) (v := .bool false) rfl (by simp) ?_
  refine WL_val rfl rfl rfl (R_move rfl rfl) ?_
  refine WL_val rfl rfl rfl (R_move rfl rfl) ?_
  refine WL_do rfl rfl rfl (D_call (picks_run gkc0 (by decide) 0 0 1 (by decide) (by decide) (by decide) (by decide) (by decide)) rfl rfl rfl rfl (pqY)) ?_
  rintro _ _ ⟨_, ⟨rfl, mkc1, rfl, pkc1, gkc1⟩, rfl⟩
  rw [← pkc1]
  have gkc1 : BIs _ mkc1 kc1 := gkc1
  refine WL_val rfl rfl rfl (R_not rfl rfl) ?_
  refine WL_val rfl rfl rfl (R_pickF rfl rfl rfl) ?_
  refine WL_val rfl rfl rfl (R_move rfl rfl) ?_
  refine WL_val rfl rfl rfl (R_move rfl rfl) ?_
  refine WL_do rfl rfl rfl (D_call (picks_run gkc1 (by decide) 0 1 2 (by decide) (by decide) (by decide) (by decide) (by decide)) rfl rfl rfl rfl (pqY)) ?_
  rintro _ _ ⟨_, ⟨rfl, mkc2, rfl, pkc2, gkc2⟩, rfl⟩
  rw [← pkc2]
  have gkc2 : BIs _ mkc2 kc2 := gkc2
  refine WL_val rfl rfl rfl (R_not rfl rfl) ?_
  refine WL_val rfl rfl rfl (R_pickF rfl rfl rfl) ?_
  refine WL_val rfl rfl rfl (R_move rfl rfl) ?_
  refine WL_val rfl rfl rfl (R_move rfl rfl) ?_
  refine WL_do rfl rfl rfl (D_call (picks_run gkc2 (by decide) 0 0 3 (by decide) (by decide) (by decide) (by decide) (by decide)) rfl rfl rfl rfl (pqY)) ?_
  rintro _ _ ⟨_, ⟨rfl, mkc3, rfl, pkc3, gkc3⟩, rfl⟩
  rw [← pkc3]
  have gkc3 : BIs _ mkc3 kc3 := gkc3
  refine WL_val rfl rfl rfl (R_not rfl rfl) ?_
  refine WL_val rfl rfl rfl (R_pickF rfl rfl rfl) ?_
  refine WL_val rfl rfl rfl (R_move rfl rfl) ?_
  refine WL_val rfl rfl rfl (R_move rfl rfl) ?_
  refine WL_do rfl rfl rfl (D_call (bd_ok gkc3 (by decide) 0 2 true (by decide) (by decide) 1 0 (by decide)) rfl rfl rfl rfl (pqY)) ?_
  rintro _ _ ⟨_, ⟨mkc4, rfl, rfl, pkc4, gkc4⟩, rfl⟩
  rw [← pkc4]
  have gkc4 : BIs _ mkc4 kc4 := gkc4
  refine WL_val rfl rfl rfl (R_neq rfl rfl rfl) ?_
  refine WL_set (s := 95) (v := .bool false) rfl (by simp) ?_
  refine WL_val rfl rfl rfl (R_pickF rfl rfl rfl) ?_
  refine WL_val rfl rfl rfl (R_move rfl rfl) ?_
  refine WL_val rfl rfl rfl (R_move rfl rfl) ?_
  refine WL_do rfl rfl rfl (D_call (picks_run gkc4 (by decide) 0 1 4 (by decide) (by decide) (by decide) (by decide) (by decide)) rfl rfl rfl rfl (pqY)) ?_
  rintro _ _ ⟨_, ⟨rfl, mkc5, rfl, pkc5, gkc5⟩, rfl⟩
  rw [← pkc5]
  have gkc5 : BIs _ mkc5 kc5 := gkc5
  refine WL_val rfl rfl rfl (R_not rfl rfl) ?_
  refine WL_val rfl rfl rfl (R_pickF rfl rfl rfl) ?_
  refine WL_nil ?_
  refine WQ_code ?_
  refine WC_F rfl ?_
  refine WC_skip ?_
  refine WQ_code ?_
  refine WC_seq ?_
  refine WC_region ?_
  refine WL_do rfl rfl rfl (D_buildSlice rfl si26 rfl rfl rfl) ?_
  rintro _ _ ⟨b4, rfl, rfl⟩
  refine WL_do rfl rfl rfl (D_call (bnew_is 1 (by decide) [1, 1] _ _ _ (Rd.own (e := 3) (own_lit _ [1, 1] (Nat.le_of_ble_eq_true rfl))) 1 10 (by decide) (by decide) (by decide)) rfl rfl rfl rfl (pqY)) ?_
  rintro _ _ ⟨_, ⟨mkd0, rfl, rfl, gkd0⟩, rfl⟩
  have gkd0 : BIs 0 mkd0 kd0 := gkd0
  refine WL_val rfl rfl rfl (R_move rfl rfl) ?_
  refine WL_val rfl rfl rfl (R_extract rfl rfl rfl) ?_
  refine WL_val rfl rfl rfl (R_extract rfl rfl rfl) ?_
  refine WL_val rfl rfl rfl (R_assign rfl rfl) ?_
  refine WL_val rfl rfl rfl (R_assign rfl rfl) ?_
  refine WL_nil ?_
  refine WQ_code ?_
  refine WC_seq ?_
  refine WC_region ?_
  refine WL_val rfl rfl rfl (R_move rfl rfl) ?_
  refine WL_val rfl rfl rfl (R_eql rfl rfl rfl) ?_
  refine WL_set (s := 108) (v := .bool true) rfl (by simp) ?_
  refine WL_val rfl rfl rfl (R_move rfl rfl) ?_
  refine WL_val rfl rfl rfl (R_move rfl rfl) ?_
  refine WL_do rfl rfl rfl (D_call (picks_run gkd0 (by decide) 0 0 1 (by decide) (by decide) (by decide) (by decide) (by decide)) rfl rfl rfl rfl (pqY)) ?_
  rintro _ _ ⟨_, ⟨rfl, mkd1, rfl, pkd1, gkd1⟩, rfl⟩
  rw [← pkd1]
  have gkd1 : BIs _ mkd1 kd1 := gkd1
  refine WL_val rfl rfl rfl (R_pickT rfl rfl rfl) ?_
  refine WL_val rfl rfl rfl (R_move rfl rfl) ?_
  refine WL_val rfl rfl rfl (R_move rfl rfl) ?_
  refine WL_do rfl rfl rfl (D_call (bd_ok gkd1 (by decide) 0 1 false (by decide) (by decide) 0 0 (by decide)) rfl rfl rfl rfl (pqY)) ?_
  rintro _ _ ⟨_, ⟨mkd2, rfl, rfl, pkd2, gkd2⟩, rfl⟩
  rw [← pkd2]
  have gkd2 : BIs _ mkd2 kd2 := gkd2
  refine WL_val rfl rfl rfl (R_eql rfl rfl rfl) ?_
  refine WL_set (s := 116) (v := .bool true) rfl (by simp) ?_
  refine WL_val rfl rfl rfl (R_pickT rfl rfl rfl) ?_
  refine WL_val rfl rfl rfl (R_move rfl rfl) ?_
  refine WL_val rfl rfl rfl (R_move rfl rfl) ?_
  refine WL_do rfl rfl rfl (D_call (picks_run gkd2 (by decide) 1 1 2 (by decide) (by decide) (by decide) (by decide) (by decide)) rfl rfl rfl rfl (pqY)) ?_
  rintro _ _ ⟨_, ⟨rfl, mkd3, rfl, pkd3, gkd3⟩, rfl⟩
  rw [← pkd3]
  have gkd3 : BIs _ mkd3 kd3 := gkd3
  refine WL_val rfl rfl rfl (R_pickT rfl rfl rfl) ?_
  refine WL_val rfl rfl rfl (R_move rfl rfl) ?_
  refine WL_val rfl rfl rfl (R_move rfl rfl) ?_
  refine WL_do rfl rfl rfl (D_call (picks_run gkd3 (by decide) 2 1 3 (by decide) (by decide) (by decide) (by decide) (by decide)) rfl rfl rfl rfl (pqY)) ?_
  rintro _ _ ⟨_, ⟨rfl, mkd4, rfl, pkd4, gkd4⟩, rfl⟩
  rw [← pkd4]
  have gkd4 : BIs _ mkd4 kd4 := gkd4
  refine WL_val rfl rfl rfl (R_pickT rfl rfl rfl) ?_
  refine WL_val rfl rfl rfl (R_move rfl rfl) ?_
  refine WL_val rfl rfl rfl (R_move rfl rfl) ?_
  refine WL_do rfl rfl rfl (D_call (picks_run gkd4 (by decide) 10 0 4 (by decide) (by decide) (by decide) (by decide) (by decide)) rfl rfl rfl rfl (pqY)) ?_
  rintro _ _ ⟨_, ⟨rfl, mkd5, rfl, pkd5, gkd5⟩, rfl⟩
  rw [← pkd5]
  have gkd5 : BIs _ mkd5 kd5 := gkd5
  refine WL_val rfl rfl rfl (R_pickT rfl rfl rfl) ?_
  refine WL_val rfl rfl rfl (R_move rfl rfl) ?_
  refine WL_do rfl rfl rfl (D_call (score_ok em (by decide) 0) rfl rfl rfl rfl (pqY)) ?_
  rintro _ _ ⟨_, ⟨rfl, rfl⟩, rfl⟩
  refine WL_val rfl rfl rfl (R_eql rfl rfl rfl) ?_
  refine WL_set (s := 132) (v := .bool true) rfl (by exact congrArg Value.bool (decide_eq_true (by decide))) ?_
  refine WL_val rfl rfl rfl (R_pickT rfl rfl rfl) ?_
  refine WL_val rfl rfl rfl (R_assign rfl rfl) ?_
  refine WL_nil ?_
  refine WQ_code ?_
  refine WC_ret ?_
  refine WQ_ret rfl rfl (.cons (.tmp rfl) .nil) rfl (by
      exact ⟨rfl, rfl⟩) (pqY)

end Go.Proofs.Ytiokpmgbabpikaa
