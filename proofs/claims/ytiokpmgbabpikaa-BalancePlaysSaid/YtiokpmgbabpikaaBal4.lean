/-
  Chapter 48 (balance), part Bal4: contracts of functions that the laws call, each for the heap it names.
-/
import Derived.Test.YtiokpmgbabpikaaRows
import Derived.Test.YtiokpmgbabpikaaZSLOpt
import Derived.Test.YtiokpmgbabpikaaTab
import Derived.Test.YtiokpmgbabpikaaBalM
import Derived.Test.YtiokpmgbabpikaaBal1
import Derived.Test.YtiokpmgbabpikaaZSLArg
set_option linter.unusedVariables false
set_option maxRecDepth 20000
set_option maxHeartbeats 4000000
namespace Go.Proofs.Ytiokpmgbabpikaa


/-- A slice of numbers that can be read. -/
def Rd (oa : Option Addr) (x : Ent) (W : List Int) : Prop := 0 < W.length → ∃ b k cs e fr, oa = some ⟨b, k, none⟩ ∧ x = ⟨some b, .cells (List.toArray cs) e fr⟩ ∧ ∀ (i : Nat) (v : Int), W[i]? = some v → cs[k + i * 1]? = some (.int .i64 v)
theorem Rd.arg {oa : Option Addr} {x : Ent} {W : List Int} (h : Arg oa x 1 encI W) : Rd oa x W := fun hl => by
  obtain ⟨b, k, cs, e, fr, h1, h2, h3⟩ := h.some hl
  exact ⟨b, k, cs, e, fr, h1, h2, fun i v hv => by have := h3 i v hv 0 (.int .i64 v) rfl; rw [Nat.add_zero] at this; exact this⟩
theorem Rd.own {o : Option Nat} {n c e : Nat} {tl : List Value} {W : List Int} (h : Own o n c 1 (ivs W) tl) : Rd (o.map fun b => ⟨b, 0, none⟩) ⟨o, cl (ivs W ++ tl) e⟩ W := fun hl => by
  obtain ⟨b, rfl⟩ := h.some_of (by have := h.len; rw [ivs_len] at this; omega)
  exact ⟨b, 0, _, e, (0, 0), rfl, rfl, fun i v hv => fm_get0 encI1 hv (j := 0) (by omega)⟩
/-- What the document tells of a backend. -/
abbrev Vw := Int × Int × Int × Bool × Br
def vw (x : Bk) : Vw := (x.w, x.sh, x.act, x.up, x.b)
def KL : List (Int × Nat) := [(4, 37), (3, 36), (2, 35), (1, 34)]
theorem kl_in {k : Nat} (h : 1 ≤ k ∧ k ≤ 4) : ((k : Int), pickF k) ∈ KL := by
  have : k = 1 ∨ k = 2 ∨ k = 3 ∨ k = 4 := by omega
  rcases this with rfl | rfl | rfl | rfl <;> simp [KL, pickF]
theorem kl_out {k : Int} (h : k < 1 ∨ 4 < k) : k ∉ KL.map (·.1) := by
  simp [KL]; omega
theorem kinds_ok : Spec Try.prog 22 [] [] (fun r H' => ∃ b es c, r = .map (some b) ∧ Mp (.int .i64) ekI fnV es KL ∧ H' = [⟨some b, .map es c⟩]) := by
  have mp0 : Mp (.int .i64) ekI fnV #[] [] := Mp.empty ekI_key ekI_inj
  refine Spec.of (E := []) Try.func22 rfl (by kernel_rfl) Try.ntmps22 rfl rfl (fun w => ?_)
  refine WC_seq ?_
  refine WC_region ?_
  refine WL_val rfl rfl rfl (R_assign rfl rfl) ?_
  refine WL_nil ?_
  refine WQ_code ?_
  refine WC_seq ?_
  refine WC_region ?_
  refine WL_do rfl rfl rfl (D_makeMap rfl) ?_
  rintro _ _ ⟨kb, rfl, rfl⟩
  refine WL_do0 rfl rfl (D_mapIns (ek := ekI) (ev := fnV) (k := 1) (v := 34) rfl Try.underlying67 Try.underlying28 rfl rfl rfl plY mp0 (by decide)) ?_
  rintro _ _ ⟨es1, mc1, hM1, rfl⟩
  refine WL_do0 rfl rfl (D_mapIns (ek := ekI) (ev := fnV) (k := 2) (v := 35) rfl Try.underlying67 Try.underlying28 rfl rfl rfl plY hM1 (by decide)) ?_
  rintro _ _ ⟨es2, mc2, hM2, rfl⟩
  refine WL_do0 rfl rfl (D_mapIns (ek := ekI) (ev := fnV) (k := 3) (v := 36) rfl Try.underlying67 Try.underlying28 rfl rfl rfl plY hM2 (by decide)) ?_
  rintro _ _ ⟨es3, mc3, hM3, rfl⟩
  refine WL_do0 rfl rfl (D_mapIns (ek := ekI) (ev := fnV) (k := 4) (v := 37) rfl Try.underlying67 Try.underlying28 rfl rfl rfl plY hM3 (by decide)) ?_
  rintro _ _ ⟨es4, mc4, hM4, rfl⟩
  refine WL_val rfl rfl rfl (R_move rfl rfl) ?_
  refine WL_val rfl rfl rfl (R_assign rfl rfl) ?_
  refine WL_nil ?_
  refine WQ_code ?_
  refine WC_ret ?_
  refine WQ_ret rfl rfl (.cons (.tmp rfl) .nil) rfl (by
      exact ⟨kb, es4, mc4, rfl, hM4, rfl⟩) (pqY)
structure NwW where
  j : Nat
  L : List Bk
  B : Heap
  o : Option Nat
  c : Nat
  t : List Value
theorem bnew_badK (k : Int) (h : k < 1 ∨ 4 < k) (W : List Int) (oa : Option Addr) (c : Nat) (ent : Ent) (ha : Rd oa ent W) (limit : Int) (op : Nat) : Spec Try.prog 11 [.int .i64 k, .slice oa W.length c, .int .i64 limit, .int .u64 (op : Int)] [ent] (fun r H' => r = .tuple #[.pointer none, .int .i64 2] ∧ H' = [ent]) := by
  refine Spec.of (E := [(0, .int .i64 k), (1, .slice oa W.length c), (2, .int .i64 limit), (3, .int .u64 (op : Int))]) Try.func11 rfl (by kernel_rfl) Try.ntmps11 rfl rfl (fun w => ?_)
  refine WC_seq ?_
  refine WC_region ?_
  refine WL_val rfl rfl rfl (R_assign rfl rfl) ?_
  refine WL_val rfl rfl rfl (R_assign rfl rfl) ?_
  refine WL_nil ?_
  refine WQ_code ?_
  refine WC_seq ?_
  refine WC_region ?_
  refine WL_do rfl rfl rfl (D_call (kinds_ok) rfl rfl rfl rfl (pqY)) ?_
  rintro _ _ ⟨_, ⟨kb, ek9, kc, rfl, hMk, rfl⟩, rfl⟩
  refine WL_val rfl rfl rfl (R_move rfl rfl) ?_
  refine WL_val rfl rfl rfl (R_look0 (ek := ekI) (ev := fnV) (k := k) rfl Try.underlying67 Try.underlying28 rfl rfl mmY hMk (kl_out h) Try.zeroValue53) ?_
  refine WL_do rfl rfl rfl (D_makeMap rfl) ?_
  rintro _ _ ⟨mb, rfl, rfl⟩
  refine WL_val rfl rfl rfl (R_build rfl zv57 pl57 rfl rfl) ?_
  refine WL_do rfl rfl rfl (D_box (cs := [_, _, _, _, _, _]) rfl rfl rfl) ?_
  rintro _ _ ⟨b1, rfl, rfl⟩
  refine WL_val rfl rfl rfl (R_assign rfl rfl) ?_
  refine WL_nil ?_
  refine WQ_code ?_
  refine WC_seq ?_
  refine WC_seq ?_
  refine WC_region ?_
  refine WL_val rfl rfl rfl (R_move rfl rfl) ?_
  refine WL_val rfl rfl rfl (R_nilCheck rfl rfl) ?_
  refine WL_val rfl rfl rfl (R_fieldAddr rfl fa57_0 rfl) ?_
  refine WL_val rfl rfl rfl (R_load (v := .nilFunc) rfl sc53 rfl (mmY) (rfl)) ?_
  refine WL_val rfl rfl rfl (R_nilFuncEq rfl Try.underlying53 rfl) ?_
  refine WL_val rfl rfl rfl (R_move rfl rfl) ?_
  refine WL_skip rfl rfl rfl ?_
  refine WL_skip rfl rfl rfl ?_
  refine WL_skip rfl rfl rfl ?_
  refine WL_val rfl rfl rfl (R_pickT rfl rfl rfl) ?_
  refine WL_val rfl rfl rfl (R_move rfl rfl) ?_
  refine WL_skip rfl rfl rfl ?_
  refine WL_skip rfl rfl rfl ?_
  refine WL_skip rfl rfl rfl ?_
  refine WL_val rfl rfl rfl (R_pickT rfl rfl rfl) ?_
  refine WL_nil ?_
  refine WQ_code ?_
  refine WC_T rfl ?_
  refine WC_seq ?_
  refine WC_region ?_
  refine WL_val rfl rfl rfl (R_assign rfl rfl) ?_
  refine WL_val rfl rfl rfl (R_assign rfl rfl) ?_
  refine WL_nil ?_
  refine WQ_code ?_
  refine WC_ret ?_
  refine WQ_ret rfl rfl (.cons (.tmp rfl) (.cons (.tmp rfl) .nil)) rfl (by
      exact ⟨rfl, rfl⟩) (pqY)
theorem bnew_badN (k : Nat) (hk : 1 ≤ k ∧ k ≤ 4) (W : List Int) (oa : Option Addr) (c : Nat) (ent : Ent) (ha : Rd oa ent W) (limit : Int) (op : Nat) (h : W.length = 0 ∨ 64 < W.length) : Spec Try.prog 11 [.int .i64 (k : Int), .slice oa W.length c, .int .i64 limit, .int .u64 (op : Int)] [ent] (fun r H' => r = .tuple #[.pointer none, .int .i64 2] ∧ H' = [ent]) := by
  refine Spec.of (E := [(0, .int .i64 (k : Int)), (1, .slice oa W.length c), (2, .int .i64 limit), (3, .int .u64 (op : Int))]) Try.func11 rfl (by kernel_rfl) Try.ntmps11 rfl rfl (fun w => ?_)
  refine WC_seq ?_
  refine WC_region ?_
  refine WL_val rfl rfl rfl (R_assign rfl rfl) ?_
  refine WL_val rfl rfl rfl (R_assign rfl rfl) ?_
  refine WL_nil ?_
  refine WQ_code ?_
  refine WC_seq ?_
  refine WC_region ?_
  refine WL_do rfl rfl rfl (D_call (kinds_ok) rfl rfl rfl rfl (pqY)) ?_
  rintro _ _ ⟨_, ⟨kb, ek9, kc, rfl, hMk, rfl⟩, rfl⟩
  refine WL_val rfl rfl rfl (R_move rfl rfl) ?_
  refine WL_val rfl rfl rfl (R_look (ek := ekI) (ev := fnV) (k := (k : Int)) (a := pickF k) rfl Try.underlying67 Try.underlying28 rfl rfl mmY hMk (kl_in hk)) ?_
  refine WL_do rfl rfl rfl (D_makeMap rfl) ?_
  rintro _ _ ⟨mb, rfl, rfl⟩
  refine WL_val rfl rfl rfl (R_build rfl zv57 pl57 rfl rfl) ?_
  refine WL_do rfl rfl rfl (D_box (cs := [_, _, _, _, _, _]) rfl rfl rfl) ?_
  rintro _ _ ⟨b1, rfl, rfl⟩
  refine WL_val rfl rfl rfl (R_assign rfl rfl) ?_
  refine WL_nil ?_
  refine WQ_code ?_
  refine WC_seq ?_
  refine WC_seq ?_
  refine WC_region ?_
  refine WL_val rfl rfl rfl (R_move rfl rfl) ?_
  refine WL_val rfl rfl rfl (R_nilCheck rfl rfl) ?_
  refine WL_val rfl rfl rfl (R_fieldAddr rfl fa57_0 rfl) ?_
  refine WL_val rfl rfl rfl (R_load (v := fnV (pickF k)) rfl sc53 rfl (mmY) (rfl)) ?_
  refine WL_val rfl rfl rfl (R_funcEqNil rfl Try.underlying53 rfl) ?_
  refine WL_val rfl rfl rfl (R_move rfl rfl) ?_
  refine WL_val rfl rfl rfl (R_move rfl rfl) ?_
  refine WL_val rfl rfl rfl (R_len rfl Try.underlying26 rfl) ?_
  refine WL_val rfl rfl rfl (R_eql rfl rfl rfl) ?_
  refine WL_val rfl rfl rfl (R_pickF rfl rfl rfl) ?_
  refine WL_val rfl rfl rfl (R_move rfl rfl) ?_
  refine WL_splitD (s := 31) rfl (fun c1 => ?_) (fun c1 => ?_)
  · refine WL_skip rfl rfl rfl ?_
    refine WL_skip rfl rfl rfl ?_
    refine WL_skip rfl rfl rfl ?_
    refine WL_val rfl rfl rfl (R_pickT rfl rfl rfl) ?_
    refine WL_nil ?_
    refine WQ_code ?_
    refine WC_T rfl ?_
    refine WC_seq ?_
    refine WC_region ?_
    refine WL_val rfl rfl rfl (R_assign rfl rfl) ?_
    refine WL_val rfl rfl rfl (R_assign rfl rfl) ?_
    refine WL_nil ?_
    refine WQ_code ?_
    refine WC_ret ?_
    refine WQ_ret rfl rfl (.cons (.tmp rfl) (.cons (.tmp rfl) .nil)) rfl (by
        exact ⟨rfl, rfl⟩) (pqY)
  · refine WL_val rfl rfl rfl (R_move rfl rfl) ?_
    refine WL_val rfl rfl rfl (R_len rfl Try.underlying26 rfl) ?_
    refine WL_val rfl rfl rfl (R_gtr rfl rfl rfl) ?_
    refine WL_val rfl rfl rfl (R_pickF rfl rfl rfl) ?_
    refine WL_nil ?_
    refine WQ_code ?_
    refine WC_dT rfl (by omega) ?_
    refine WC_seq ?_
    refine WC_region ?_
    refine WL_val rfl rfl rfl (R_assign rfl rfl) ?_
    refine WL_val rfl rfl rfl (R_assign rfl rfl) ?_
    refine WL_nil ?_
    refine WQ_code ?_
    refine WC_ret ?_
    refine WQ_ret rfl rfl (.cons (.tmp rfl) (.cons (.tmp rfl) .nil)) rfl (by
        exact ⟨rfl, rfl⟩) (pqY)
theorem bnew_badR (k : Nat) (hk : 1 ≤ k ∧ k ≤ 4) (W : List Int) (oa : Option Addr) (c : Nat) (ent : Ent) (ha : Rd oa ent W) (limit : Int) (op : Nat) (h : 1 ≤ W.length ∧ W.length ≤ 64) (hR : ¬ OkR limit 1 op) : Spec Try.prog 11 [.int .i64 (k : Int), .slice oa W.length c, .int .i64 limit, .int .u64 (op : Int)] [ent] (fun r H' => r = .tuple #[.pointer none, .int .i64 2] ∧ H' = [ent]) := by
  refine Spec.of (E := [(0, .int .i64 (k : Int)), (1, .slice oa W.length c), (2, .int .i64 limit), (3, .int .u64 (op : Int))]) Try.func11 rfl (by kernel_rfl) Try.ntmps11 rfl rfl (fun w => ?_)
  refine WC_seq ?_
  refine WC_region ?_
  refine WL_val rfl rfl rfl (R_assign rfl rfl) ?_
  refine WL_val rfl rfl rfl (R_assign rfl rfl) ?_
  refine WL_nil ?_
  refine WQ_code ?_
  refine WC_seq ?_
  refine WC_region ?_
  refine WL_do rfl rfl rfl (D_call (kinds_ok) rfl rfl rfl rfl (pqY)) ?_
  rintro _ _ ⟨_, ⟨kb, ek9, kc, rfl, hMk, rfl⟩, rfl⟩
  refine WL_val rfl rfl rfl (R_move rfl rfl) ?_
  refine WL_val rfl rfl rfl (R_look (ek := ekI) (ev := fnV) (k := (k : Int)) (a := pickF k) rfl Try.underlying67 Try.underlying28 rfl rfl mmY hMk (kl_in hk)) ?_
  refine WL_do rfl rfl rfl (D_makeMap rfl) ?_
  rintro _ _ ⟨mb, rfl, rfl⟩
  refine WL_val rfl rfl rfl (R_build rfl zv57 pl57 rfl rfl) ?_
  refine WL_do rfl rfl rfl (D_box (cs := [_, _, _, _, _, _]) rfl rfl rfl) ?_
  rintro _ _ ⟨b1, rfl, rfl⟩
  refine WL_val rfl rfl rfl (R_assign rfl rfl) ?_
  refine WL_nil ?_
  refine WQ_code ?_
  refine WC_seq ?_
  refine WC_seq ?_
  refine WC_region ?_
  refine WL_val rfl rfl rfl (R_move rfl rfl) ?_
  refine WL_val rfl rfl rfl (R_nilCheck rfl rfl) ?_
  refine WL_val rfl rfl rfl (R_fieldAddr rfl fa57_0 rfl) ?_
  refine WL_val rfl rfl rfl (R_load (v := fnV (pickF k)) rfl sc53 rfl (mmY) (rfl)) ?_
  refine WL_val rfl rfl rfl (R_funcEqNil rfl Try.underlying53 rfl) ?_
  refine WL_val rfl rfl rfl (R_move rfl rfl) ?_
  refine WL_val rfl rfl rfl (R_move rfl rfl) ?_
  refine WL_val rfl rfl rfl (R_len rfl Try.underlying26 rfl) ?_
  refine WL_val rfl rfl rfl (R_eql rfl rfl rfl) ?_
  refine WL_val rfl rfl rfl (R_pickF rfl rfl rfl) ?_
  refine WL_val rfl rfl rfl (R_move rfl rfl) ?_
  refine WL_set (s := 31) (v := .bool false) rfl (by exact congrArg Value.bool (decide_eq_false (by omega))) ?_
  refine WL_val rfl rfl rfl (R_move rfl rfl) ?_
  refine WL_val rfl rfl rfl (R_len rfl Try.underlying26 rfl) ?_
  refine WL_val rfl rfl rfl (R_gtr rfl rfl rfl) ?_
  refine WL_val rfl rfl rfl (R_pickF rfl rfl rfl) ?_
  refine WL_nil ?_
  refine WQ_code ?_
  refine WC_dF rfl (by omega) ?_
  refine WC_skip ?_
  refine WQ_code ?_
  refine WC_seq ?_
  refine WC_seq ?_
  refine WC_region ?_
  refine WL_val rfl rfl rfl (R_move rfl rfl) ?_
  refine WL_val rfl rfl rfl (R_len rfl Try.underlying26 rfl) ?_
  refine WL_val rfl rfl rfl (R_move rfl rfl) ?_
  refine WL_nil ?_
  refine WQ_code ?_
  refine WC_block ?_
  refine WC_loopF (G := NwW) [8, 9, 12, 13, 14, 38, 39, 40, 41, 42, 43, 44, 45, 46, 47, 48, 49, 50, 51, 52, 53, 54, 55, 56, 57, 58, 59, 60, 61, 62, 63, 64, 65, 66, 67, 68, 69, 70] (fun y => y.j = 0) (fun y => [(38, .int .i64 (y.j : Int))]) (fun y => []) (fun y => W.length - y.j) (⟨0, [], [], none, 0, []⟩) (rfl) leZ (pqY) ?_
  rintro y hyj
  refine WC_seq ?_
  refine WC_region ?_
  refine WL_val rfl rfl rfl (R_lss rfl rfl rfl) ?_
  refine WL_nil ?_
  refine WQ_code ?_
  refine WC_seq ?_
  refine WC_dec rfl (fun c1 => ?_) (fun c1 => ?_)
  · refine WC_skip ?_
    refine WQ_code ?_
    refine WC_seq ?_
    refine WC_block ?_
    refine WC_seq ?_
    refine WC_region ?_
    obtain ⟨w9, hw9⟩ := getE (T := W) (i := y.j) (by omega)
    obtain ⟨lb, lk, lcs, le, lfr, rfl, rfl, hat⟩ := ha (by omega)
    refine WL_val rfl rfl rfl (R_indexAddrN rfl Try.underlying26 Try.sizeOf3 rfl rfl (by omega)) ?_
    refine WL_val rfl rfl rfl (R_loadG (v := .int .i64 w9) rfl sc3 rfl mmY (hat y.j w9 hw9)) ?_
    refine WL_val rfl rfl rfl (R_assign rfl rfl) ?_
    refine WL_nil ?_
    refine WQ_code ?_
    refine WC_seq ?_
    refine WC_region ?_
    refine WL_val rfl rfl rfl (R_move rfl rfl) ?_
    refine WL_val rfl rfl rfl (R_move rfl rfl) ?_
    refine WL_do rfl rfl rfl (D_call (bk_new_bad limit 1 op hR) rfl rfl rfl rfl (pqY)) ?_
    rintro _ _ ⟨_, ⟨rfl, rfl⟩, rfl⟩
    refine WL_val rfl rfl rfl (R_move rfl rfl) ?_
    refine WL_val rfl rfl rfl (R_extract rfl rfl rfl) ?_
    refine WL_val rfl rfl rfl (R_extract rfl rfl rfl) ?_
    refine WL_val rfl rfl rfl (R_assign rfl rfl) ?_
    refine WL_val rfl rfl rfl (R_assign rfl rfl) ?_
    refine WL_nil ?_
    refine WQ_code ?_
    refine WC_seq ?_
    refine WC_seq ?_
    refine WC_region ?_
    refine WL_val rfl rfl rfl (R_move rfl rfl) ?_
    refine WL_val rfl rfl rfl (R_neq rfl rfl rfl) ?_
    refine WL_set (s := 49) (v := .bool true) rfl (by simp) ?_
    refine WL_val rfl rfl rfl (R_move rfl rfl) ?_
    refine WL_skip rfl rfl rfl ?_
    refine WL_skip rfl rfl rfl ?_
    refine WL_val rfl rfl rfl (R_pickT rfl rfl rfl) ?_
    refine WL_val rfl rfl rfl (R_move rfl rfl) ?_
    refine WL_skip rfl rfl rfl ?_
    refine WL_skip rfl rfl rfl ?_
    refine WL_val rfl rfl rfl (R_pickT rfl rfl rfl) ?_
    refine WL_nil ?_
    refine WQ_code ?_
    refine WC_T rfl ?_
    refine WC_seq ?_
    refine WC_region ?_
    refine WL_val rfl rfl rfl (R_assign rfl rfl) ?_
    refine WL_val rfl rfl rfl (R_assign rfl rfl) ?_
    refine WL_nil ?_
    refine WQ_code ?_
    refine WC_ret ?_
    refine WQ_ret rfl rfl (.cons (.tmp rfl) (.cons (.tmp rfl) .nil)) rfl (by
        exact ⟨rfl, rfl⟩) (pqY)
  · exfalso; omega
theorem bnew_badW (k : Nat) (hk : 1 ≤ k ∧ k ≤ 4) (W : List Int) (oa : Option Addr) (c : Nat) (ent : Ent) (ha : Rd oa ent W) (limit : Int) (op : Nat) (h : 1 ≤ W.length ∧ W.length ≤ 64) (hR : OkR limit 1 op) (hW : ¬ ∀ w ∈ W, 1 ≤ w ∧ w ≤ 100) : Spec Try.prog 11 [.int .i64 (k : Int), .slice oa W.length c, .int .i64 limit, .int .u64 (op : Int)] [ent] (fun r H' => r = .tuple #[.pointer none, .int .i64 2] ∧ H' = [ent]) := by
  refine Spec.of (E := [(0, .int .i64 (k : Int)), (1, .slice oa W.length c), (2, .int .i64 limit), (3, .int .u64 (op : Int))]) Try.func11 rfl (by kernel_rfl) Try.ntmps11 rfl rfl (fun w => ?_)
  refine WC_seq ?_
  refine WC_region ?_
  refine WL_val rfl rfl rfl (R_assign rfl rfl) ?_
  refine WL_val rfl rfl rfl (R_assign rfl rfl) ?_
  refine WL_nil ?_
  refine WQ_code ?_
  refine WC_seq ?_
  refine WC_region ?_
  refine WL_do rfl rfl rfl (D_call (kinds_ok) rfl rfl rfl rfl (pqY)) ?_
  rintro _ _ ⟨_, ⟨kb, ek9, kc, rfl, hMk, rfl⟩, rfl⟩
  refine WL_val rfl rfl rfl (R_move rfl rfl) ?_
  refine WL_val rfl rfl rfl (R_look (ek := ekI) (ev := fnV) (k := (k : Int)) (a := pickF k) rfl Try.underlying67 Try.underlying28 rfl rfl mmY hMk (kl_in hk)) ?_
  refine WL_do rfl rfl rfl (D_makeMap rfl) ?_
  rintro _ _ ⟨mb, rfl, rfl⟩
  refine WL_val rfl rfl rfl (R_build rfl zv57 pl57 rfl rfl) ?_
  refine WL_do rfl rfl rfl (D_box (cs := [_, _, _, _, _, _]) rfl rfl rfl) ?_
  rintro _ _ ⟨b1, rfl, rfl⟩
  refine WL_val rfl rfl rfl (R_assign rfl rfl) ?_
  refine WL_nil ?_
  refine WQ_code ?_
  refine WC_seq ?_
  refine WC_seq ?_
  refine WC_region ?_
  refine WL_val rfl rfl rfl (R_move rfl rfl) ?_
  refine WL_val rfl rfl rfl (R_nilCheck rfl rfl) ?_
  refine WL_val rfl rfl rfl (R_fieldAddr rfl fa57_0 rfl) ?_
  refine WL_val rfl rfl rfl (R_load (v := fnV (pickF k)) rfl sc53 rfl (mmY) (rfl)) ?_
  refine WL_val rfl rfl rfl (R_funcEqNil rfl Try.underlying53 rfl) ?_
  refine WL_val rfl rfl rfl (R_move rfl rfl) ?_
  refine WL_val rfl rfl rfl (R_move rfl rfl) ?_
  refine WL_val rfl rfl rfl (R_len rfl Try.underlying26 rfl) ?_
  refine WL_val rfl rfl rfl (R_eql rfl rfl rfl) ?_
  refine WL_val rfl rfl rfl (R_pickF rfl rfl rfl) ?_
  refine WL_val rfl rfl rfl (R_move rfl rfl) ?_
  refine WL_set (s := 31) (v := .bool false) rfl (by exact congrArg Value.bool (decide_eq_false (by omega))) ?_
  refine WL_val rfl rfl rfl (R_move rfl rfl) ?_
  refine WL_val rfl rfl rfl (R_len rfl Try.underlying26 rfl) ?_
  refine WL_val rfl rfl rfl (R_gtr rfl rfl rfl) ?_
  refine WL_val rfl rfl rfl (R_pickF rfl rfl rfl) ?_
  refine WL_nil ?_
  refine WQ_code ?_
  refine WC_dF rfl (by omega) ?_
  refine WC_skip ?_
  refine WQ_code ?_
  refine WC_seq ?_
  refine WC_seq ?_
  refine WC_region ?_
  refine WL_val rfl rfl rfl (R_move rfl rfl) ?_
  refine WL_val rfl rfl rfl (R_len rfl Try.underlying26 rfl) ?_
  refine WL_val rfl rfl rfl (R_move rfl rfl) ?_
  refine WL_nil ?_
  refine WQ_code ?_
  refine WC_block ?_
  refine WC_none 73 ?_
  refine WC_loopF (G := NwW) [8, 9, 12, 13, 14, 38, 39, 40, 41, 42, 43, 44, 45, 46, 47, 48, 49, 50, 51, 52, 53, 54, 55, 56, 57, 58, 59, 60, 61, 62, 63, 64, 65, 66, 67, 68, 69, 70] (fun y => y.j ≤ W.length ∧ y.L.map vw = (W.take y.j).map (fun w => (w, 0, 0, true, newB limit 1 op)) ∧ y.B = bks y.L ∧ Own y.o y.L.length y.c 5 (y.L.flatMap encB) y.t ∧ ∀ w ∈ W.take y.j, 1 ≤ w ∧ w ≤ 100) (fun y => [(38, .int .i64 (y.j : Int))]) (fun y => [⟨some b1, cl [fnV (pickF k), slV y.o y.L.length y.c, .int .i64 0, .int .i64 0, .map (some mb), .int .u64 0] 57⟩, ⟨y.o, cl (y.L.flatMap encB ++ y.t) 73⟩] ++ y.B) (fun y => W.length - y.j) (⟨0, [], [], none, 0, []⟩) (⟨Nat.zero_le _, rfl, rfl, Own.empty 5, by simp⟩) leZ (pqY) ?_
  rintro y ⟨hyj, hyL, hyB, hyo, hyw⟩
  have hyl : y.L.length = y.j := by have := congrArg List.length hyL; rw [List.length_map, List.length_map, List.length_take] at this; omega
  refine WC_seq ?_
  refine WC_region ?_
  refine WL_val rfl rfl rfl (R_lss rfl rfl rfl) ?_
  refine WL_nil ?_
  refine WQ_code ?_
  refine WC_seq ?_
  refine WC_dec rfl (fun c1 => ?_) (fun c1 => ?_)
  · refine WC_skip ?_
    refine WQ_code ?_
    refine WC_seq ?_
    refine WC_block ?_
    refine WC_seq ?_
    refine WC_region ?_
    obtain ⟨w9, hw9⟩ := getE (T := W) (i := y.j) (by omega)
    obtain ⟨lb, lk, lcs, le, lfr, rfl, rfl, hat⟩ := ha (by omega)
    refine WL_val rfl rfl rfl (R_indexAddrN rfl Try.underlying26 Try.sizeOf3 rfl rfl (by omega)) ?_
    refine WL_val rfl rfl rfl (R_loadG (v := .int .i64 w9) rfl sc3 rfl mmY (hat y.j w9 hw9)) ?_
    refine WL_val rfl rfl rfl (R_assign rfl rfl) ?_
    refine WL_nil ?_
    refine WQ_code ?_
    refine WC_seq ?_
    refine WC_region ?_
    refine WL_val rfl rfl rfl (R_move rfl rfl) ?_
    refine WL_val rfl rfl rfl (R_move rfl rfl) ?_
    refine WL_do rfl rfl rfl (D_call (bk_new_ok limit 1 op hR) rfl rfl rfl rfl (pqY)) ?_
    rintro _ _ ⟨_, ⟨p9, rfl, rfl⟩, rfl⟩
    refine WL_val rfl rfl rfl (R_move rfl rfl) ?_
    refine WL_val rfl rfl rfl (R_extract rfl rfl rfl) ?_
    refine WL_val rfl rfl rfl (R_extract rfl rfl rfl) ?_
    refine WL_val rfl rfl rfl (R_assign rfl rfl) ?_
    refine WL_val rfl rfl rfl (R_assign rfl rfl) ?_
    refine WL_nil ?_
    refine WQ_code ?_
    refine WC_seq ?_
    refine WC_seq ?_
    refine WC_region ?_
    refine WL_val rfl rfl rfl (R_move rfl rfl) ?_
    refine WL_val rfl rfl rfl (R_neq rfl rfl rfl) ?_
    refine WL_set (s := 49) (v := .bool false) rfl (by simp) ?_
    refine WL_val rfl rfl rfl (R_move rfl rfl) ?_
    refine WL_val rfl rfl rfl (R_move rfl rfl) ?_
    refine WL_val rfl rfl rfl (R_lss rfl rfl rfl) ?_
    refine WL_val rfl rfl rfl (R_pickF rfl rfl rfl) ?_
    refine WL_val rfl rfl rfl (R_move rfl rfl) ?_
    refine WL_splitD (s := 54) rfl (fun c2 => ?_) (fun c2 => ?_)
    · refine WL_skip rfl rfl rfl ?_
      refine WL_skip rfl rfl rfl ?_
      refine WL_val rfl rfl rfl (R_pickT rfl rfl rfl) ?_
      refine WL_nil ?_
      refine WQ_code ?_
      refine WC_T rfl ?_
      refine WC_seq ?_
      refine WC_region ?_
      refine WL_val rfl rfl rfl (R_assign rfl rfl) ?_
      refine WL_val rfl rfl rfl (R_assign rfl rfl) ?_
      refine WL_nil ?_
      refine WQ_code ?_
      refine WC_ret ?_
      refine WQ_ret rfl rfl (.cons (.tmp rfl) (.cons (.tmp rfl) .nil)) rfl (by
          exact ⟨rfl, rfl⟩) (pqY)
    · refine WL_val rfl rfl rfl (R_move rfl rfl) ?_
      refine WL_val rfl rfl rfl (R_gtr rfl rfl rfl) ?_
      refine WL_val rfl rfl rfl (R_pickF rfl rfl rfl) ?_
      refine WL_nil ?_
      refine WQ_code ?_
      refine WC_dec rfl (fun c3 => ?_) (fun c3 => ?_)
      · refine WC_seq ?_
        refine WC_region ?_
        refine WL_val rfl rfl rfl (R_assign rfl rfl) ?_
        refine WL_val rfl rfl rfl (R_assign rfl rfl) ?_
        refine WL_nil ?_
        refine WQ_code ?_
        refine WC_ret ?_
        refine WQ_ret rfl rfl (.cons (.tmp rfl) (.cons (.tmp rfl) .nil)) rfl (by
            exact ⟨rfl, rfl⟩) (pqY)
      · refine WC_skip ?_
        refine WQ_code ?_
        refine WC_region ?_
        refine WL_val rfl rfl rfl (R_move rfl rfl) ?_
        refine WL_val rfl rfl rfl (R_move rfl rfl) ?_
        refine WL_val rfl rfl rfl (R_nilCheck rfl rfl) ?_
        refine WL_val rfl rfl rfl (R_fieldAddr rfl fa57_1 rfl) ?_
        refine WL_val rfl rfl rfl (R_load rfl sc54 rfl (mmY) rfl) ?_
        refine WL_val rfl rfl rfl (R_move rfl rfl) ?_
        refine WL_val rfl rfl rfl (R_move rfl rfl) ?_
        refine WL_val rfl rfl rfl (R_build rfl zv73 pl73 rfl rfl) ?_
        refine WL_do rfl rfl rfl (D_buildSlice rfl si54 rfl rfl rfl) ?_
        rintro _ _ ⟨b2, rfl, rfl⟩
        refine WL_do rfl rfl rfl (D_append rfl si54 rfl (hyo) (plY) rfl (mmY) ((atZ : At _ 0 [_, _, _, _, _])) (rfl) (rfl) (by omega) (by omega)) ?_
        rintro _ _ ⟨ob3, cap3, tl3, rfl, own3, rfl⟩
        rw [show y.L.flatMap encB ++ [Value.int .i64 w9, Value.int .i64 0, Value.int .i64 0, Value.bool true, ptrB p9] = (y.L ++ [(⟨w9, 0, 0, true, p9, newB limit 1 op⟩ : Bk)]).flatMap encB from by simp, show y.L.length + 1 = (y.L ++ [(⟨w9, 0, 0, true, p9, newB limit 1 op⟩ : Bk)]).length from by simp] at own3 ⊢
        refine WL_val rfl rfl rfl (R_nilCheck rfl rfl) ?_
        refine WL_val rfl rfl rfl (R_fieldAddr rfl fa57_1 rfl) ?_
        refine WL_do0 rfl rfl (D_store (vs := [_]) rfl Try.sizeOf54 rfl rfl rfl rfl rfl (plY) (by exact Nat.le_of_ble_eq_true rfl)) ?_
        rintro _ _ rfl
        refine WL_nil ?_
        refine WQ_code ?_
        refine WC_region ?_
        refine WL_val rfl rfl rfl (R_add rfl rfl rfl (by omega)) ?_
        refine WL_val rfl rfl rfl (R_move rfl rfl) ?_
        refine WL_nil ?_
        refine WQ_nextF (⟨y.j + 1, y.L ++ [⟨w9, 0, 0, true, p9, newB limit 1 op⟩], y.B ++ [bkE ⟨w9, 0, 0, true, p9, newB limit 1 op⟩], ob3, cap3, tl3⟩) (⟨by dsimp only; omega, by dsimp only; rw [take_next hw9, List.map_append, List.map_append, hyL]; rfl, by dsimp only; rw [hyB]; unfold bks; rw [List.map_append]; rfl, own3, fun v hv => by dsimp only at hv; rw [take_next hw9] at hv; rcases List.mem_append.1 hv with hv | hv; exact hyw v hv; rw [List.mem_singleton.1 hv]; omega⟩) (by dsimp only; omega) leZ (psZ) rfl (pqY)
  · exfalso; rw [List.take_of_length_le (by omega)] at hyw; exact hW hyw
theorem bnew_ok (k : Nat) (hk : 1 ≤ k ∧ k ≤ 4) (W : List Int) (oa : Option Addr) (c : Nat) (ent : Ent) (ha : Rd oa ent W) (limit : Int) (op : Nat) (h : 1 ≤ W.length ∧ W.length ≤ 64) (hR : OkR limit 1 op) (hW : ∀ w ∈ W, 1 ≤ w ∧ w ≤ 100) : Spec Try.prog 11 [.int .i64 (k : Int), .slice oa W.length c, .int .i64 limit, .int .u64 (op : Int)] [ent]
    (fun r H' => ∃ m, r = .tuple #[ptrB m.p, .int .i64 0] ∧ H' = ent :: balH m ∧ BalIs 0 m [] ∧ m.k = k ∧ m.n = W.length ∧ m.nx = 0 ∧ m.gv = 0 ∧ m.last = 0 ∧ m.L.map vw = W.map (fun w => (w, 0, 0, true, newB limit 1 op))) := by
  refine Spec.of (E := [(0, .int .i64 (k : Int)), (1, .slice oa W.length c), (2, .int .i64 limit), (3, .int .u64 (op : Int))]) Try.func11 rfl (by kernel_rfl) Try.ntmps11 rfl rfl (fun w => ?_)
  refine WC_seq ?_
  refine WC_region ?_
  refine WL_val rfl rfl rfl (R_assign rfl rfl) ?_
  refine WL_val rfl rfl rfl (R_assign rfl rfl) ?_
  refine WL_nil ?_
  refine WQ_code ?_
  refine WC_seq ?_
  refine WC_region ?_
  refine WL_do rfl rfl rfl (D_call (kinds_ok) rfl rfl rfl rfl (pqY)) ?_
  rintro _ _ ⟨_, ⟨kb, ek9, kc, rfl, hMk, rfl⟩, rfl⟩
  refine WL_val rfl rfl rfl (R_move rfl rfl) ?_
  refine WL_val rfl rfl rfl (R_look (ek := ekI) (ev := fnV) (k := (k : Int)) (a := pickF k) rfl Try.underlying67 Try.underlying28 rfl rfl mmY hMk (kl_in hk)) ?_
  refine WL_do rfl rfl rfl (D_makeMap rfl) ?_
  rintro _ _ ⟨mb, rfl, rfl⟩
  refine WL_val rfl rfl rfl (R_build rfl zv57 pl57 rfl rfl) ?_
  refine WL_do rfl rfl rfl (D_box (cs := [_, _, _, _, _, _]) rfl rfl rfl) ?_
  rintro _ _ ⟨b1, rfl, rfl⟩
  refine WL_val rfl rfl rfl (R_assign rfl rfl) ?_
  refine WL_nil ?_
  refine WQ_code ?_
  refine WC_seq ?_
  refine WC_seq ?_
  refine WC_region ?_
  refine WL_val rfl rfl rfl (R_move rfl rfl) ?_
  refine WL_val rfl rfl rfl (R_nilCheck rfl rfl) ?_
  refine WL_val rfl rfl rfl (R_fieldAddr rfl fa57_0 rfl) ?_
  refine WL_val rfl rfl rfl (R_load (v := fnV (pickF k)) rfl sc53 rfl (mmY) (rfl)) ?_
  refine WL_val rfl rfl rfl (R_funcEqNil rfl Try.underlying53 rfl) ?_
  refine WL_val rfl rfl rfl (R_move rfl rfl) ?_
  refine WL_val rfl rfl rfl (R_move rfl rfl) ?_
  refine WL_val rfl rfl rfl (R_len rfl Try.underlying26 rfl) ?_
  refine WL_val rfl rfl rfl (R_eql rfl rfl rfl) ?_
  refine WL_val rfl rfl rfl (R_pickF rfl rfl rfl) ?_
  refine WL_val rfl rfl rfl (R_move rfl rfl) ?_
  refine WL_set (s := 31) (v := .bool false) rfl (by exact congrArg Value.bool (decide_eq_false (by omega))) ?_
  refine WL_val rfl rfl rfl (R_move rfl rfl) ?_
  refine WL_val rfl rfl rfl (R_len rfl Try.underlying26 rfl) ?_
  refine WL_val rfl rfl rfl (R_gtr rfl rfl rfl) ?_
  refine WL_val rfl rfl rfl (R_pickF rfl rfl rfl) ?_
  refine WL_nil ?_
  refine WQ_code ?_
  refine WC_dF rfl (by omega) ?_
  refine WC_skip ?_
  refine WQ_code ?_
  refine WC_seq ?_
  refine WC_seq ?_
  refine WC_region ?_
  refine WL_val rfl rfl rfl (R_move rfl rfl) ?_
  refine WL_val rfl rfl rfl (R_len rfl Try.underlying26 rfl) ?_
  refine WL_val rfl rfl rfl (R_move rfl rfl) ?_
  refine WL_nil ?_
  refine WQ_code ?_
  refine WC_block ?_
  refine WC_none 73 ?_
  refine WC_loopF (G := NwW) [8, 9, 12, 13, 14, 38, 39, 40, 41, 42, 43, 44, 45, 46, 47, 48, 49, 50, 51, 52, 53, 54, 55, 56, 57, 58, 59, 60, 61, 62, 63, 64, 65, 66, 67, 68, 69, 70] (fun y => y.j ≤ W.length ∧ y.L.map vw = (W.take y.j).map (fun w => (w, 0, 0, true, newB limit 1 op)) ∧ y.B = bks y.L ∧ Own y.o y.L.length y.c 5 (y.L.flatMap encB) y.t) (fun y => [(38, .int .i64 (y.j : Int))]) (fun y => [⟨some b1, cl [fnV (pickF k), slV y.o y.L.length y.c, .int .i64 0, .int .i64 0, .map (some mb), .int .u64 0] 57⟩, ⟨y.o, cl (y.L.flatMap encB ++ y.t) 73⟩] ++ y.B) (fun y => W.length - y.j) (⟨0, [], [], none, 0, []⟩) (⟨Nat.zero_le _, rfl, rfl, Own.empty 5⟩) leZ (pqY) ?_
  rintro y ⟨hyj, hyL, hyB, hyo⟩
  have hyl : y.L.length = y.j := by have := congrArg List.length hyL; rw [List.length_map, List.length_map, List.length_take] at this; omega
  refine WC_seq ?_
  refine WC_region ?_
  refine WL_val rfl rfl rfl (R_lss rfl rfl rfl) ?_
  refine WL_nil ?_
  refine WQ_code ?_
  refine WC_seq ?_
  refine WC_dec rfl (fun c1 => ?_) (fun c1 => ?_)
  · refine WC_skip ?_
    refine WQ_code ?_
    refine WC_seq ?_
    refine WC_block ?_
    refine WC_seq ?_
    refine WC_region ?_
    obtain ⟨w9, hw9⟩ := getE (T := W) (i := y.j) (by omega)
    obtain ⟨lb, lk, lcs, le, lfr, rfl, rfl, hat⟩ := ha (by omega)
    have hw1 := hW w9 (List.mem_of_getElem? hw9)
    refine WL_val rfl rfl rfl (R_indexAddrN rfl Try.underlying26 Try.sizeOf3 rfl rfl (by omega)) ?_
    refine WL_val rfl rfl rfl (R_loadG (v := .int .i64 w9) rfl sc3 rfl mmY (hat y.j w9 hw9)) ?_
    refine WL_val rfl rfl rfl (R_assign rfl rfl) ?_
    refine WL_nil ?_
    refine WQ_code ?_
    refine WC_seq ?_
    refine WC_region ?_
    refine WL_val rfl rfl rfl (R_move rfl rfl) ?_
    refine WL_val rfl rfl rfl (R_move rfl rfl) ?_
    refine WL_do rfl rfl rfl (D_call (bk_new_ok limit 1 op hR) rfl rfl rfl rfl (pqY)) ?_
    rintro _ _ ⟨_, ⟨p9, rfl, rfl⟩, rfl⟩
    refine WL_val rfl rfl rfl (R_move rfl rfl) ?_
    refine WL_val rfl rfl rfl (R_extract rfl rfl rfl) ?_
    refine WL_val rfl rfl rfl (R_extract rfl rfl rfl) ?_
    refine WL_val rfl rfl rfl (R_assign rfl rfl) ?_
    refine WL_val rfl rfl rfl (R_assign rfl rfl) ?_
    refine WL_nil ?_
    refine WQ_code ?_
    refine WC_seq ?_
    refine WC_seq ?_
    refine WC_region ?_
    refine WL_val rfl rfl rfl (R_move rfl rfl) ?_
    refine WL_val rfl rfl rfl (R_neq rfl rfl rfl) ?_
    refine WL_set (s := 49) (v := .bool false) rfl (by simp) ?_
    refine WL_val rfl rfl rfl (R_move rfl rfl) ?_
    refine WL_val rfl rfl rfl (R_move rfl rfl) ?_
    refine WL_val rfl rfl rfl (R_lss rfl rfl rfl) ?_
    refine WL_val rfl rfl rfl (R_pickF rfl rfl rfl) ?_
    refine WL_val rfl rfl rfl (R_move rfl rfl) ?_
    refine WL_set (s := 54) (v := .bool false) rfl (by exact congrArg Value.bool (decide_eq_false (by omega))) ?_
    refine WL_val rfl rfl rfl (R_move rfl rfl) ?_
    refine WL_val rfl rfl rfl (R_gtr rfl rfl rfl) ?_
    refine WL_val rfl rfl rfl (R_pickF rfl rfl rfl) ?_
    refine WL_nil ?_
    refine WQ_code ?_
    refine WC_dF rfl (by omega) ?_
    refine WC_skip ?_
    refine WQ_code ?_
    refine WC_region ?_
    refine WL_val rfl rfl rfl (R_move rfl rfl) ?_
    refine WL_val rfl rfl rfl (R_move rfl rfl) ?_
    refine WL_val rfl rfl rfl (R_nilCheck rfl rfl) ?_
    refine WL_val rfl rfl rfl (R_fieldAddr rfl fa57_1 rfl) ?_
    refine WL_val rfl rfl rfl (R_load rfl sc54 rfl (mmY) rfl) ?_
    refine WL_val rfl rfl rfl (R_move rfl rfl) ?_
    refine WL_val rfl rfl rfl (R_move rfl rfl) ?_
    refine WL_val rfl rfl rfl (R_build rfl zv73 pl73 rfl rfl) ?_
    refine WL_do rfl rfl rfl (D_buildSlice rfl si54 rfl rfl rfl) ?_
    rintro _ _ ⟨b2, rfl, rfl⟩
    refine WL_do rfl rfl rfl (D_append rfl si54 rfl (hyo) (plY) rfl (mmY) ((atZ : At _ 0 [_, _, _, _, _])) (rfl) (rfl) (by omega) (by omega)) ?_
    rintro _ _ ⟨ob3, cap3, tl3, rfl, own3, rfl⟩
    rw [show y.L.flatMap encB ++ [Value.int .i64 w9, Value.int .i64 0, Value.int .i64 0, Value.bool true, ptrB p9] = (y.L ++ [(⟨w9, 0, 0, true, p9, newB limit 1 op⟩ : Bk)]).flatMap encB from by simp, show y.L.length + 1 = (y.L ++ [(⟨w9, 0, 0, true, p9, newB limit 1 op⟩ : Bk)]).length from by simp] at own3 ⊢
    refine WL_val rfl rfl rfl (R_nilCheck rfl rfl) ?_
    refine WL_val rfl rfl rfl (R_fieldAddr rfl fa57_1 rfl) ?_
    refine WL_do0 rfl rfl (D_store (vs := [_]) rfl Try.sizeOf54 rfl rfl rfl rfl rfl (plY) (by exact Nat.le_of_ble_eq_true rfl)) ?_
    rintro _ _ rfl
    refine WL_nil ?_
    refine WQ_code ?_
    refine WC_region ?_
    refine WL_val rfl rfl rfl (R_add rfl rfl rfl (by omega)) ?_
    refine WL_val rfl rfl rfl (R_move rfl rfl) ?_
    refine WL_nil ?_
    refine WQ_nextF (⟨y.j + 1, y.L ++ [⟨w9, 0, 0, true, p9, newB limit 1 op⟩], y.B ++ [bkE ⟨w9, 0, 0, true, p9, newB limit 1 op⟩], ob3, cap3, tl3⟩) (⟨by dsimp only; omega, by dsimp only; rw [take_next hw9, List.map_append, List.map_append, hyL]; rfl, by dsimp only; rw [hyB]; unfold bks; rw [List.map_append]; rfl, own3⟩) (by dsimp only; omega) leZ (psZ) rfl (pqY)
  · have hjl : y.j = W.length := by omega
    rw [List.take_of_length_le (by omega)] at hyL
    obtain ⟨wb, hwb⟩ := hyo.some_of (by omega)
    rw [hwb, hyB, show y.L.length = W.length by omega]
    rw [hwb, show y.L.length = W.length by omega] at hyo
    have hvw : ∀ x ∈ y.L, x.w ∈ W ∧ x.sh = 0 ∧ x.act = 0 ∧ x.b = newB limit 1 op := fun x hx => by have h8 := List.mem_map_of_mem (f := vw) hx; rw [hyL] at h8; obtain ⟨w, hw, e⟩ := List.mem_map.1 h8; unfold vw at e; simp only [Prod.mk.injEq] at e; exact ⟨e.1 ▸ hw, e.2.1.symm, e.2.2.1.symm, e.2.2.2.2.symm⟩
    refine WC_exit ?_
    refine WQ_code ?_
    refine WC_seq ?_
    refine WC_region ?_
    refine WL_val rfl rfl rfl (R_move rfl rfl) ?_
    refine WL_val rfl rfl rfl (R_assign rfl rfl) ?_
    refine WL_val rfl rfl rfl (R_assign rfl rfl) ?_
    refine WL_nil ?_
    refine WQ_code ?_
    refine WC_ret ?_
    refine WQ_ret rfl rfl (.cons (.tmp rfl) (.cons (.tmp rfl) .nil)) rfl (by
        refine ⟨⟨b1, k, W.length, wb, y.c, y.t, y.L, 0, 0, mb, #[], 0, 0⟩, rfl, rfl, ⟨by dsimp only; omega, hyo, Mp.empty ekI_key ekI_inj, hk, h, ?_, ?_, ?_, ?_, by dsimp only; omega, Nat.le_refl _, Nat.le_refl _, fun c hc => (by cases hc), fun c hc => (by cases hc), fun c hc => (by cases hc), Nat.zero_le _⟩, rfl, rfl, rfl, rfl, rfl, hyL⟩
        · intro x hx; rw [(hvw x hx).2.2.2]; exact ⟨fit_new hR, Nat.le_refl _, Int.le_refl _⟩
        · intro x hx; exact hW _ (hvw x hx).1
        · intro x hx; rw [(hvw x hx).2.1]; decide
        · intro x hx; rw [(hvw x hx).2.2.1]; decide) (pqY)
/-! ### Copies -/
theorem bclone_ok (ob n c : Nat) (tl : List Value) (L : List Bk) (hl : L.length = n ∧ n ≤ 64) : Spec Try.prog 32 [slV (some ob) n c] [⟨some ob, cl (L.flatMap encB ++ tl) 73⟩]
    (fun r H' => ∃ o2 c2 t2, r = slV o2 n c2 ∧ Own o2 n c2 5 (L.flatMap encB) t2 ∧ H' = ⟨o2, cl (L.flatMap encB ++ t2) 73⟩ :: [⟨some ob, cl (L.flatMap encB ++ tl) 73⟩]) := by
  obtain ⟨rfl, hl⟩ := hl
  refine Spec.of (E := [(0, slV (some ob) L.length c)]) Try.func32 rfl (by kernel_rfl) Try.ntmps32 rfl rfl (fun w => ?_)
  refine WC_seq ?_
  refine WC_region ?_
  refine WL_val rfl rfl rfl (R_assign rfl rfl) ?_
  refine WL_nil ?_
  refine WQ_code ?_
  refine WC_seq ?_
  refine WC_seq ?_
  refine WC_region ?_
  refine WL_val rfl rfl rfl (R_move rfl rfl) ?_
  refine WL_val rfl rfl rfl (R_sliceEqNil rfl Try.underlying54 rfl) ?_
  refine WL_nil ?_
  refine WQ_code ?_
  refine WC_F rfl ?_
  refine WC_skip ?_
  refine WQ_code ?_
  refine WC_seq ?_
  refine WC_region ?_
  refine WL_do rfl rfl rfl (D_buildSlice rfl si54 rfl rfl rfl) ?_
  rintro _ _ ⟨b1, rfl, rfl⟩
  refine WL_val rfl rfl rfl (R_move rfl rfl) ?_
  refine WL_do rfl rfl rfl (D_append rfl si54 rfl ((⟨by simp, by simp, by simp, by simp, fun h => by cases h⟩ : Own (some b1) 0 0 5 [] [])) (plY) rfl (mmY) ((fun j v hj => by rw [Nat.zero_add, List.getElem?_append_left (List.getElem?_eq_some_iff.1 hj).1]; exact hj : At (L.flatMap encB ++ tl) 0 (L.flatMap encB))) (fm_length encB5 L) (encB_one L) (by omega) (by omega)) ?_
  rintro _ _ ⟨ob2, cap2, tl2, rfl, own2, rfl⟩
  rw [Nat.zero_add] at own2 ⊢
  rw [List.nil_append] at own2 ⊢
  refine WL_val rfl rfl rfl (R_assign rfl rfl) ?_
  refine WL_nil ?_
  refine WQ_code ?_
  refine WC_ret ?_
  refine WQ_ret rfl rfl (.cons (.tmp rfl) .nil) rfl (by
      exact ⟨_, _, _, rfl, own2, rfl⟩) (pqY)
theorem xt_clone : Extern.find Try.f43 = some Extern.MapsClone.clone := by kernel_rfl
theorem xt_clone_next : Extern.findNext Try.f43 = none := by kernel_rfl
theorem xt_clone_name : (Try.f43.name == "runtime.NumGoroutine") = false := by kernel_rfl
theorem bmc_ok (mb : Nat) (es : Array MapEntry) (mc : Nat) : Spec Try.prog 31 [.map (some mb)] [⟨some mb, .map es mc⟩] (fun r H' => ∃ m2, r = .map (some m2) ∧ H' = [⟨some m2, .map es mc⟩, ⟨some mb, .map es mc⟩]) := by
  refine Spec.of (E := [(0, .map (some mb))]) Try.func31 rfl (by kernel_rfl) Try.ntmps31 rfl rfl (fun w => ?_)
  refine WC_seq ?_
  refine WC_region ?_
  refine WL_val rfl rfl rfl (R_assign rfl rfl) ?_
  refine WL_nil ?_
  refine WQ_code ?_
  refine WC_seq ?_
  refine WC_seq ?_
  refine WC_region ?_
  refine WL_val rfl rfl rfl (R_move rfl rfl) ?_
  refine WL_val rfl rfl rfl (R_mapEqNil rfl Try.underlying55 rfl) ?_
  refine WL_set (s := 4) (v := .bool false) rfl (by rfl) ?_
  refine WL_nil ?_
  refine WQ_code ?_
  refine WC_F rfl ?_
  refine WC_skip ?_
  refine WQ_code ?_
  refine WC_seq ?_
  refine WC_region ?_
  refine WL_val rfl rfl rfl (R_move rfl rfl) ?_
  refine WL_val rfl rfl rfl (R_mkIface rfl Try.underlying55 (by intro ms e; cases e) rfl) ?_
  refine WL_do rfl rfl rfl (D_mapsClone Try.func43 xt_clone_name rfl xt_clone_next xt_clone rfl rfl mmY) ?_
  rintro _ _ ⟨m2, rfl, rfl⟩
  refine WL_val rfl rfl rfl (R_assert rfl Try.underlying55 (by intro ms e; cases e) rfl) ?_
  refine WL_val rfl rfl rfl (R_assign rfl rfl) ?_
  refine WL_nil ?_
  refine WQ_code ?_
  refine WC_ret ?_
  refine WQ_ret rfl rfl (.cons (.tmp rfl) .nil) rfl (by
      exact ⟨m2, rfl, rfl⟩) (pqY)
theorem bcopy_nil : Spec Try.prog 20 [.pointer none] [] (fun r H' => r = .pointer none ∧ H' = []) := by
  refine Spec.of (E := [(0, .pointer none)]) Try.func20 rfl (by kernel_rfl) Try.ntmps20 rfl rfl (fun w => ?_)
  refine WC_seq ?_
  refine WC_region ?_
  refine WL_val rfl rfl rfl (R_assign rfl rfl) ?_
  refine WL_nil ?_
  refine WQ_code ?_
  refine WC_seq ?_
  refine WC_seq ?_
  refine WC_region ?_
  refine WL_val rfl rfl rfl (R_move rfl rfl) ?_
  refine WL_val rfl rfl rfl (R_ptrEqNil rfl Try.underlying31 rfl) ?_
  refine WL_val rfl rfl rfl (R_move rfl rfl) ?_
  refine WL_skip rfl rfl rfl ?_
  refine WL_skip rfl rfl rfl ?_
  refine WL_skip rfl rfl rfl ?_
  refine WL_skip rfl rfl rfl ?_
  refine WL_skip rfl rfl rfl ?_
  refine WL_val rfl rfl rfl (R_pickT rfl rfl rfl) ?_
  refine WL_nil ?_
  refine WQ_code ?_
  refine WC_T rfl ?_
  refine WC_seq ?_
  refine WC_region ?_
  refine WL_val rfl rfl rfl (R_assign rfl rfl) ?_
  refine WL_nil ?_
  refine WQ_code ?_
  refine WC_ret ?_
  refine WQ_ret rfl rfl (.cons (.tmp rfl) .nil) rfl (by
      exact ⟨rfl, rfl⟩) (pqY)
theorem bcopy_zero (p : Nat) : Spec Try.prog 20 [ptrB p] [⟨some p, cl balZ 57⟩] (fun r H' => r = .pointer none ∧ H' = [⟨some p, cl balZ 57⟩]) := by
  refine Spec.of (E := [(0, ptrB p)]) Try.func20 rfl (by kernel_rfl) Try.ntmps20 rfl rfl (fun w => ?_)
  refine WC_seq ?_
  refine WC_region ?_
  refine WL_val rfl rfl rfl (R_assign rfl rfl) ?_
  refine WL_nil ?_
  refine WQ_code ?_
  refine WC_seq ?_
  refine WC_seq ?_
  refine WC_region ?_
  refine WL_val rfl rfl rfl (R_move rfl rfl) ?_
  refine WL_val rfl rfl rfl (R_ptrEqNil rfl Try.underlying31 rfl) ?_
  refine WL_val rfl rfl rfl (R_move rfl rfl) ?_
  refine WL_val rfl rfl rfl (R_move rfl rfl) ?_
  refine WL_val rfl rfl rfl (R_nilCheck rfl rfl) ?_
  refine WL_val rfl rfl rfl (R_fieldAddr rfl fa57_4 rfl) ?_
  refine WL_val rfl rfl rfl (R_load rfl sc55 rfl (mmY) rfl) ?_
  refine WL_val rfl rfl rfl (R_mapEqNil rfl Try.underlying55 rfl) ?_
  refine WL_set (s := 12) (v := .bool true) rfl (by rfl) ?_
  refine WL_val rfl rfl rfl (R_pickF rfl rfl rfl) ?_
  refine WL_nil ?_
  refine WQ_code ?_
  refine WC_T rfl ?_
  refine WC_seq ?_
  refine WC_region ?_
  refine WL_val rfl rfl rfl (R_assign rfl rfl) ?_
  refine WL_nil ?_
  refine WQ_code ?_
  refine WC_ret ?_
  refine WQ_ret rfl rfl (.cons (.tmp rfl) .nil) rfl (by
      exact ⟨rfl, rfl⟩) (pqY)

end Go.Proofs.Ytiokpmgbabpikaa
