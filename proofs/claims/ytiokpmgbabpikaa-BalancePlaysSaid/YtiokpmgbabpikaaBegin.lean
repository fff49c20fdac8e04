/-
  Chapter 48 (balance), part Begin: contracts of functions that the laws call, each for the heap it names.
-/
import Derived.Test.YtiokpmgbabpikaaRows
import Derived.Test.YtiokpmgbabpikaaZSLOpt
import Derived.Test.YtiokpmgbabpikaaTab
import Derived.Test.YtiokpmgbabpikaaStepM
import Derived.Test.YtiokpmgbabpikaaStep1
import Derived.Test.YtiokpmgbabpikaaSLStay
set_option linter.unusedVariables false
set_option maxRecDepth 20000
set_option maxHeartbeats 4000000
namespace Go.Proofs.Ytiokpmgbabpikaa


theorem begin_ok (k : Nat) (W : List Int) (oa : Option Addr) (c : Nat) (ent : Ent) (ha : Rd oa ent W) (limit : Int) (op : Nat) (h : 1 ≤ W.length ∧ W.length ≤ 64) (hR : OkR limit 1 op) : Spec Try.prog 14 [.int .i64 (k : Int), .slice oa W.length c, .int .i64 limit, .int .u64 (op : Int)] [ent] (fun r H' => ∃ l, r = lmV l ∧ H' = ent :: lmH l ∧ LmIs 0 l ∧ Rel (bs0 k W limit op) l) := by
  refine Spec.of (E := [(0, .int .i64 (k : Int)), (1, .slice oa W.length c), (2, .int .i64 limit), (3, .int .u64 (op : Int))]) Try.func14 rfl (by kernel_rfl) Try.ntmps14 rfl rfl (fun w => ?_)
  refine WC_seq ?_
  refine WC_region ?_
  refine WL_do rfl rfl rfl (D_alloc rfl zv45) ?_
  rintro _ _ ⟨b1, rfl, rfl⟩
  refine WL_nil ?_
  refine WQ_code ?_
  refine WC_seq ?_
  refine WC_region ?_
  refine WL_val rfl rfl rfl (R_move rfl rfl) ?_
  refine WL_val rfl rfl rfl (R_build rfl zv45 pl45 rfl rfl) ?_
  refine WL_do rfl rfl rfl (D_alloc rfl zv45) ?_
  rintro _ _ ⟨b2, rfl, rfl⟩
  refine WL_do0 rfl rfl (D_store (vs := [_, _, _, _, _, _]) rfl Try.sizeOf45 rfl rfl rfl rfl rfl (plY) (by exact Nat.le_of_ble_eq_true rfl)) ?_
  rintro _ _ rfl
  refine WL_nil ?_
  refine WQ_code ?_
  refine WC_seq ?_
  refine WC_seq ?_
  refine WC_region ?_
  refine WL_val rfl rfl rfl (R_assign rfl rfl) ?_
  refine WL_nil ?_
  refine WQ_code ?_
  refine WC_block ?_
  refine WC_none 82 ?_
  refine WC_loopF (G := NwW) [10, 11, 12, 15, 16, 17, 18, 19, 20, 21, 22, 23, 24, 25, 26, 27, 28, 29, 30, 31, 32, 33, 34, 35, 36, 37] (fun y => y.j ≤ W.length ∧ y.L.map vw = (W.take y.j).map (fun w => (w, 0, 0, true, newB limit 1 op)) ∧ y.B = bks y.L ∧ Own y.o y.L.length y.c 5 (y.L.flatMap encLB) y.t) (fun y => [(10, .int .i64 (y.j : Int))]) (fun y => [⟨some b2, cl [.int .i64 (k : Int), slV y.o y.L.length y.c, .int .i64 0, .int .i64 0, .slice none 0 0, .int .u64 0] 45⟩, ⟨y.o, cl (y.L.flatMap encLB ++ y.t) 82⟩] ++ y.B) (fun y => W.length - y.j) (⟨0, [], [], none, 0, []⟩) (⟨Nat.zero_le _, rfl, rfl, Own.empty 5⟩) leZ (pqY) ?_
  rintro y ⟨hyj, hyL, hyB, hyo⟩
  have hyl : y.L.length = y.j := by have := congrArg List.length hyL; rw [List.length_map, List.length_map, List.length_take] at this; omega
  refine WC_seq ?_
  refine WC_seq ?_
  refine WC_region ?_
  refine WL_val rfl rfl rfl (R_move rfl rfl) ?_
  refine WL_val rfl rfl rfl (R_move rfl rfl) ?_
  refine WL_val rfl rfl rfl (R_len rfl Try.underlying26 rfl) ?_
  refine WL_val rfl rfl rfl (R_lss rfl rfl rfl) ?_
  refine WL_nil ?_
  refine WQ_code ?_
  refine WC_dec rfl (fun c1 => ?_) (fun c1 => ?_)
  · refine WC_skip ?_
    refine WQ_code ?_
    refine WC_seq ?_
    refine WC_block ?_
    refine WC_seq ?_
    refine WC_region ?_
    refine WL_val rfl rfl rfl (R_move rfl rfl) ?_
    refine WL_val rfl rfl rfl (R_move rfl rfl) ?_
    refine WL_do rfl rfl rfl (D_call (bk_new_ok limit 1 op hR) rfl rfl rfl rfl (pqY)) ?_
    rintro _ _ ⟨_, ⟨p9, rfl, rfl⟩, rfl⟩
    refine WL_val rfl rfl rfl (R_move rfl rfl) ?_
    refine WL_val rfl rfl rfl (R_extract rfl rfl rfl) ?_
    refine WL_val rfl rfl rfl (R_extract rfl rfl rfl) ?_
    refine WL_val rfl rfl rfl (R_assign rfl rfl) ?_
    refine WL_val rfl rfl rfl (R_assign rfl rfl) ?_
    refine WL_nil ?_
    refine WQ_code ?_
    refine WC_drawY (⟨some b2, _⟩ :: [⟨y.o, _⟩]) [(b2, 1, slV y.o y.L.length y.c)] [11] [(0, false), (1, true)] [(2, true), (3, true), (4, true), (5, true), (6, true), (7, true), (8, false), (9, false), (10, true), (11, false)] followsMixed rfl rfl (by kernel_rfl) (pqY) (.cons (mmY) rfl .nil) ?_
    obtain ⟨w9, hw9⟩ := getE (T := W) (i := y.j) (by omega)
    obtain ⟨lb, lk, lcs, le, lfr, rfl, rfl, hat⟩ := ha (by omega)
    refine WYE_val rfl rfl rfl rfl (R_fieldAddr rfl fa45_1 rfl) ?_
    refine WYE_early rfl rfl rfl rfl rfl sc42 rfl (by repeat (first | exact List.Mem.head _ | refine List.Mem.tail _ ?_)) ?_
    refine WYE_rest ?_
    refine WY_val rfl rfl rfl rfl (R_move rfl rfl) ?_
    refine WY_val rfl rfl rfl rfl (R_move rfl rfl) ?_
    refine WY_val rfl rfl rfl rfl (R_indexAddrN rfl Try.underlying26 Try.sizeOf3 rfl rfl (by omega)) ?_
    refine WY_val rfl rfl rfl rfl (R_loadG (v := .int .i64 w9) rfl sc3 rfl mmY (hat y.j w9 hw9)) ?_
    refine WY_val rfl rfl rfl rfl (R_move rfl rfl) ?_
    refine WY_val rfl rfl rfl rfl (R_build rfl zv82 pl82 rfl rfl) ?_
    refine WY_do rfl rfl rfl rfl (D_buildSlice rfl si42 rfl rfl rfl) ?_
    rintro _ _ ⟨b3, rfl, rfl⟩
    refine ⟨⟨_, pqY⟩, .inr (.cons (mmY) rfl .nil), ?_⟩
    refine WY_do rfl rfl rfl rfl (D_append rfl si42 rfl (hyo) (plY) rfl (mmY) ((atZ : At _ 0 [_, _, _, _, _])) (rfl) (rfl) (by omega) (by omega)) ?_
    rintro _ _ ⟨ob4, cap4, tl4, rfl, own4, rfl⟩
    refine ⟨⟨_, pqY⟩, .inr (.cons (mmY) rfl .nil), ?_⟩
    rw [show y.L.flatMap encLB ++ [Value.int .i64 w9, Value.int .i64 0, Value.int .i64 0, Value.bool false, ptrB p9] = (y.L ++ [(⟨w9, 0, 0, true, p9, newB limit 1 op⟩ : Bk)]).flatMap encLB from by simp, show y.L.length + 1 = (y.L ++ [(⟨w9, 0, 0, true, p9, newB limit 1 op⟩ : Bk)]).length from by simp] at own4 ⊢
    refine WY_val rfl rfl rfl rfl (R_fieldAddr rfl fa45_1 rfl) ?_
    refine WY_do0 rfl rfl rfl (D_store (vs := [_]) rfl Try.sizeOf42 rfl rfl rfl rfl rfl (plY) (by exact Nat.le_of_ble_eq_true rfl)) ?_
    rintro _ _ rfl
    refine ⟨⟨_, pqY⟩, .inl rfl, ?_⟩
    refine WY_nil ?_
    refine WQ_code ?_
    refine WC_region ?_
    refine WL_val rfl rfl rfl (R_move rfl rfl) ?_
    refine WL_val rfl rfl rfl (R_add rfl rfl rfl (by omega)) ?_
    refine WL_val rfl rfl rfl (R_assign rfl rfl) ?_
    refine WL_nil ?_
    refine WQ_nextF (⟨y.j + 1, y.L ++ [⟨w9, 0, 0, true, p9, newB limit 1 op⟩], y.B ++ [bkE ⟨w9, 0, 0, true, p9, newB limit 1 op⟩], ob4, cap4, tl4⟩) (⟨by dsimp only; omega, by dsimp only; rw [take_next hw9, List.map_append, List.map_append, hyL]; rfl, by dsimp only; rw [hyB]; unfold bks; rw [List.map_append]; rfl, own4⟩) (by dsimp only; omega) leZ (psZ) rfl (pqY)
  · have hjl : y.j = W.length := by omega
    rw [List.take_of_length_le (by omega)] at hyL
    obtain ⟨wb, hwb⟩ := hyo.some_of (by omega)
    rw [hwb, hyB, show y.L.length = W.length by omega]
    rw [hwb, show y.L.length = W.length by omega] at hyo
    have hvw : ∀ x ∈ y.L, x.sh = 0 := fun x hx => by have h8 := List.mem_map_of_mem (f := vw) hx; rw [hyL] at h8; obtain ⟨w, hw, e⟩ := List.mem_map.1 h8; unfold vw at e; simp only [Prod.mk.injEq] at e; exact e.2.1.symm
    refine WC_none 88 ?_
    refine WC_exit ?_
    refine WQ_code ?_
    refine WC_seq ?_
    refine WC_region ?_
    refine WL_val rfl rfl rfl (R_loadA (vs := [_, _, _, _, _, _]) rfl ag45 rfl (mmY) rfl (atZ)) ?_
    refine WL_do0 rfl rfl (D_store (vs := [_, _, _, _, _, _]) rfl Try.sizeOf45 rfl rfl rfl rfl rfl (plY) (by exact Nat.le_of_ble_eq_true rfl)) ?_
    rintro _ _ rfl
    refine WL_nil ?_
    refine WQ_code ?_
    refine WC_ret ?_
    refine WQ_ret rfl rfl (.cons (.cell (vs := [_, _, _, _, _, _]) rfl ag45 (mmY) rfl (atZ)) .nil) rfl (by
        exact ⟨⟨k, W.length, wb, y.c, y.t, y.L, 0, 0, none, 0, [], [], 0⟩, rfl, rfl, ⟨by dsimp only; omega, h, hyo, Own.empty 3, fun x hx => by rw [hvw x hx]; decide, by dsimp only; omega, Nat.le_refl _, Nat.le_refl _⟩, ⟨rfl, vq_of (hyL.trans (vw_un _).symm) k, rfl, rfl, rfl, rfl⟩⟩) (pqY)

end Go.Proofs.Ytiokpmgbabpikaa
